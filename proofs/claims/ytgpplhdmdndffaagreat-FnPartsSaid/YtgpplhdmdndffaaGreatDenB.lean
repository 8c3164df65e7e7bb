/- Theory for the proofs of this claim: see its last text. -/
import Derived.Test.YtgpplhdmdndffaaGreatDenA
import Derived.Deep.MidRow
import Derived.Deep.AppendSrc
import Derived.Below
import Derived.WalkKit
import Derived.WalkSpells
import Derived.Great.BuildSlice
import Derived.Laws.MakeOwn
import Derived.Laws.BytesArg
import Derived.Laws.IdiomStrings
set_option linter.unusedSimpArgs false
namespace Go.Den
def AA:AV->Option Value
 | .bool b=>some (.bool b)
 | .int k n=>some (.int k n)
 | .str s=>some (.string ⟨s.toArray⟩)
 |_=>none
structure Cx where
 w:World
 loc:Nat->Option Nat
 blk:Nat->Blk
 ok:Nat->Prop
 used:Nat->Prop
def HJ (R:AV->Value->Prop)(w:World)(ok:Nat->Prop)(t:Tag)(xs:List (El t))(c o:Nat):Prop:=
 ok c/\∀i x,xs[i]? =some x->∀j a,(enc t x)[j]? =some a->∃v,w.cell? ⟨c,o+i*esz t+j,none⟩=some v/\R a v
def nN (R:AV->Value->Prop)(w:World)(ok:Nat->Prop)(t:Tag)(xs:List (El t))(v:Value):Prop:=
 ∃a cap,v= .slice a xs.length cap/\xs.length<=cap/\(xs=[]\/∃c o,a=some ⟨c,o,none⟩/\HJ R w ok t xs c o)
def R0 (a:AV)(v:Value):Prop:=AA a=some v
def R1 (w:World)(ok:Nat->Prop)(a:AV)(v:Value):Prop:=R0 a v\/∃t xs,a= .list t xs/\nN R0 w ok t xs v
def VP (C:Cx):AV->Value->Prop
 | .bool b,v=>v= .bool b
 | .int k n,v=>v= .int k n
 | .str s,v=>v= .string ⟨s.toArray⟩
 | .nilp,v=>v= .pointer none
 | .ptr b o,v=>∃c,C.loc b=some c/\v= .pointer (some ⟨c,o,none⟩)
 | .ptrI b o n i,v=>∃c,C.loc b=some c/\0<=i/\i<n/\v= .pointer (some ⟨c,o+i.toNat,none⟩)
 | .ptrE b t i o,v=>∃c,C.loc b=some c/\C.used b/\0<=i/\v= .pointer (some ⟨c,i.toNat*esz t+o,none⟩)/\(∀t' xs f,C.blk b= .row t' xs f->t'=t/\i<xs.length)
 | .ptrL t xs i o,v=>∃c o',0<=i/\i<xs.length/\HJ (R1 C.w C.ok) C.w C.ok t xs c o'/\v= .pointer (some ⟨c,o'+i.toNat*esz t+o,none⟩)
 | .nils,v=>v= .slice none 0 0
 | .list t xs,v=>nN (R1 C.w C.ok) C.w C.ok t xs v
 | .vec b,v=>C.used b/\(∃a n c,v= .slice a n c)/\match C.blk b with
  | .row t xs _=>match C.loc b with
   |some c=>∃cap T n,v= .slice (some ⟨c,0,none⟩) xs.length cap/\xs.length<=cap/\C.w.shape? c=some (T,n)/\cap*esz t<=n
   |none=>v= .slice none 0 0/\xs=[]
  | .rowA cs=>∃c,C.loc b=some c/\v= .slice (some ⟨c,0,none⟩) cs.length cs.length
  |_=>True
 | .pre b n,v=>C.used b/\(∃a m c,v= .slice a m c)/\0<=n/\match C.blk b with
  | .row _ xs _=>n<=xs.length/\match C.loc b with
   |some c=>∃cap,v= .slice (some ⟨c,0,none⟩) n.toNat cap/\n.toNat<=cap
   |none=>v= .slice none 0 0/\n=0
  | .rowA cs=>n<=cs.length/\∃c cap,C.loc b=some c/\v= .slice (some ⟨c,0,none⟩) n.toNat cap
  |_=>True
 | .suf b n,v=>C.used b/\(∃a m c,v= .slice a m c)/\0<=n/\match C.blk b with
  | .row t xs _=>n<=xs.length/\∃a cap,v= .slice a (xs.length-n.toNat) cap/\(n<xs.length->∃c,C.loc b=some c/\a=some ⟨c,n.toNat*esz t,none⟩)
  |_=>True
 | .nilf,v=>v= .nilFunc
 | .err true,v=>v= .nilIface
 | .err false,v=>∃t x,v= .iface t x
 | .mapr b,v=>∃c,C.loc b=some c/\v= .map (some c)
 | .dead,_=>True
 | .anyb p d,v=>∃b,v= .bool b/\(p=false->b=d)
 |_,_=>False
def jw {α β:Type}(R:α->β->Prop):List α->List β->Prop
 |[],[]=>True
 |a::as,b::bs=>R a b/\jw R as bs
 |_,_=>False
def VR (C:Cx)(a:AV)(v:Value):Prop:=match a with
 | .func fn f c=>∃f' c',v= .func fn f' c'/\jw (VP C) f f'.toList/\jw (VP C) c c'.toList
 |a=>VP C a v
def lL:List AV->Nat->Nat
 |_,0=>0
 |[],_+1=>0
 |a::r,i+1=>a.width+lL r i
def ER (C:Cx)(a:AV)(g:Nat->Option Value)(o:Nat):Prop:=match a with
 | .arr t n xs=>∀j,j<n->∃v e,g (o+j)=some v/\enc t (bk xs (j:Nat) (aJ t))=[e]/\AA e=some v
 |a=>∃v,g o=some v/\VR C a v
def CR (C:Cx)(cs:List AV)(g:Nat->Option Value):Prop:=∀i a,cs[i]? =some a->ER C a g (lL cs i)
def TR1 (C:Cx)(a:AV)(v:Value):Prop:=match a with
 | .agg cs=>∃l:Array Value,v= .agg l/\l.size=bw cs/\CR C cs (fun o=>l[o]?)
 |a=>VR C a v
def TR (C:Cx)(a:AV)(v:Value):Prop:=match a with
 | .tup vs=>∃l:Array Value,v= .tuple l/\jw (TR1 C) vs l.toList
 |a=>TR1 C a v
def NF (arr:Array Value)(fr:Nat×Nat):Prop:=∀o,o<arr.size->¬(fr.1<=o/\o<fr.2)
def NE (t:Tag)(arr:Array Value)(fr:Nat×Nat):Prop:=NF arr fr/\(t= .page->¬(fr.1<=arr.size/\arr.size<fr.2))
def RowC (R:AV->Value->Prop)(t:Tag)(xs:List (El t))(arr:Array Value):Prop:=
 xs.length*esz t<=arr.size/\∀i x,xs[i]? =some x->∀j a,(enc t x)[j]? =some a->∃v,arr[i*esz t+j]? =some v/\R a v
def BR (C:Cx)(b:Nat):Blk->Prop
 | .gone=>True
 | .var cs| .rowA cs=>∃c arr T fr,C.loc b=some c/\C.w.heap[c]? =some (.cells arr T fr)/\arr.size=bw cs/\CR C cs (fun o=>arr[o]?)/\NF arr fr
 | .row t xs fz=>match C.loc b with
  |none=>xs=[]
  |some c=>∃arr T fr,C.w.heap[c]? =some (.cells arr T fr)/\RowC (R1 C.w C.ok) t xs arr/\(fz=false->NE t arr fr)
 | .map t es=>∃c ms clock,C.loc b=some c/\C.w.heap[c]? =some (.map ms clock)/\jw (fun(e:Int×El t) (m:MapEntry)=>m.key= .int .i64 e.1/\∃a,enc t e.2=[a]/\AA a=some m.val) es ms.toList
def BK (x y:Blk)(l:Prop):Prop:=match x with
 | .gone=>y= .gone
 | .row t xs f=>y= .gone\/(l/\∃ys g,y= .row t ys g/\ys.length=xs.length/\(f=true->g=true))
 | .rowA cs=>y= .gone\/∃ds,y= .rowA ds/\ds.length=cs.length
 | .var _=>∃ds,y= .var ds
 | .map t _=>∃ds,y= .map t ds
structure Ext (C C':Cx):Prop where
 loc:∀b c,C.loc b=some c->C'.loc b=some c
 used:∀b,C.used b->C'.used b
 keep:∀b,C.used b->BK (C.blk b) (C'.blk b) (C'.loc b=C.loc b)
 cell:∀c o v,C.ok c->C.w.cell? ⟨c,o,none⟩=some v->C'.w.cell? ⟨c,o,none⟩=some v
 ok:∀c,C.ok c->C'.ok c
 shape:∀c x,C.w.shape? c=some x->C'.w.shape? c=some x
theorem BK.refl (x:Blk){l:Prop}(h:l):BK x x l:=by
 cases x with
 |gone=>exact rfl
 |var cs=>exact⟨cs,rfl⟩
 |row t xs f=>exact .inr ⟨h,xs,f,rfl,rfl,id⟩
 |rowA cs=>exact .inr ⟨cs,rfl,rfl⟩
 |map t es=>exact⟨es,rfl⟩
theorem BK.trans {x y z:Blk}{l k m:Prop}(h:BK x y l)(g:BK y z k)(e:l->k->m):BK x z m:=by
 cases x with
 |gone=>cases (show y= .gone from h);exact g
 |var cs=>obtain⟨ds,rfl⟩:=(show∃ds,y= .var ds from h);exact g
 |row t xs f=>
  rcases(show y= .gone\/(l/\∃ys g,y= .row t ys g/\ys.length=xs.length/\(f=true->g=true))from h)with rfl|⟨hl,ys,f',rfl,hn,hf⟩
  ·exact .inl g
  ·rcases(show z= .gone\/(k/\∃zs g,z= .row t zs g/\zs.length=ys.length/\(f'=true->g=true))from g)with rfl|⟨hk,zs,f'',rfl,hm,hf'⟩
   ·exact .inl rfl
   ·exact .inr ⟨e hl hk,zs,f'',rfl,hm.trans hn,fun x=>hf' (hf x)⟩
 |rowA cs=>
  rcases(show y= .gone\/∃ds,y= .rowA ds/\ds.length=cs.length from h)with rfl|⟨ds,rfl,hn⟩
  ·exact .inl g
  ·rcases(show z= .gone\/∃es,z= .rowA es/\es.length=ds.length from g)with rfl|⟨es,rfl,hm⟩
   ·exact .inl rfl
   ·exact .inr ⟨es,rfl,hm.trans hn⟩
 |map t es=>obtain⟨ds,rfl⟩:=(show∃ds,y= .map t ds from h);exact g
theorem Ext.refl (C:Cx):Ext C C:=⟨fun _ _ h=>h,fun _ h=>h,fun _ _=>BK.refl _ rfl,fun _ _ _ _ h=>h,fun _ h=>h,fun _ _ h=>h⟩
theorem Ext.trans {A B C:Cx}(h:Ext A B)(k:Ext B C):Ext A C where
 loc b c e:=k.loc b c (h.loc b c e)
 used b e:=k.used b (h.used b e)
 keep b u:=(h.keep b u).trans (k.keep b (h.used b u)) fun x y=>y.trans x
 cell c o v ho hv:=k.cell c o v (h.ok c ho) (h.cell c o v ho hv)
 ok c e:=k.ok c (h.ok c e)
 shape c x e:=k.shape c x (h.shape c x e)
section ext
variable {C C':Cx}
theorem HJ.ext {R R':AV->Value->Prop}(hR:∀a v,R a v->R' a v)(E:Ext C C'){t:Tag}{xs:List (El t)}{c o:Nat}(h:HJ R C.w C.ok t xs c o):HJ R' C'.w C'.ok t xs c o:=
 ⟨E.ok c h.1,fun i x hx j a ha=>let ⟨v,hv,hr⟩:=h.2 i x hx j a ha;⟨v,E.cell c _ v h.1 hv,hR a v hr⟩⟩
theorem nN.ext {R R':AV->Value->Prop}(hR:∀a v,R a v->R' a v)(E:Ext C C'){t:Tag}{xs:List (El t)}{v:Value}(h:nN R C.w C.ok t xs v):nN R' C'.w C'.ok t xs v:=by
 obtain⟨a,cap,hv,hc,hr⟩:=h
 exact⟨a,cap,hv,hc,hr.imp id fun⟨c,o,ha,hr⟩=>⟨c,o,ha,hr.ext hR E⟩⟩
theorem R1.ext (E:Ext C C'){a:AV}{v:Value}(h:R1 C.w C.ok a v):R1 C'.w C'.ok a v:=
 h.imp id fun⟨t,xs,ha,hr⟩=>⟨t,xs,ha,hr.ext (fun _ _ h=>h) E⟩
theorem VP.ext (E:Ext C C'){a:AV}{v:Value}(h:VP C a v):VP C' a v:=by
 cases a with
 |ptr b o=>obtain⟨c,hc,hv⟩:=h;exact⟨c,E.loc b c hc,hv⟩
 |ptrI b o n i=>obtain⟨c,hc,h0,h1,hv⟩:=h;exact⟨c,E.loc b c hc,h0,h1,hv⟩
 |ptrE b t i o=>
  obtain⟨c,hc,hu,h0,hv,hb⟩:=h
  refine⟨c,E.loc b c hc,E.used b hu,h0,hv,fun t' xs f hx=>?_⟩
  have hk:=E.keep b hu
  rw[hx]at hk
  cases hy:C.blk b with
  |gone=>rw[hy]at hk;exact ah hk (by simp[BK])
  |var cs=>rw[hy]at hk;exact ah hk (by simp[BK])
  |rowA cs=>rw[hy]at hk;exact ah hk (by simp[BK])
  |map es=>rw[hy]at hk;exact ah hk (by simp[BK])
  |row t'' ys f'=>
   rw[hy]at hk
   rcases hk with hk|⟨_,zs,g,hz,hn⟩
   ·cases hk
   ·injection hz with ht hxs _
    subst ht
    have hxs:=eq_of_heq hxs
    subst hxs
    obtain⟨rfl,hi⟩:=hb _ ys f' hy
    exact⟨rfl,by omega⟩
 |ptrL t xs i o=>obtain⟨c,o',h0,h1,hr,hv⟩:=h;exact⟨c,o',h0,h1,hr.ext (fun _ _=>R1.ext E) E,hv⟩
 |list t xs=>exact nN.ext (fun _ _=>R1.ext E) E h
 |vec b=>
  obtain⟨hu,hsl,h⟩:=h
  refine⟨E.used b hu,hsl,?_⟩
  have hk:=E.keep b hu
  cases hy:C.blk b with
  |gone=>rw[hy]at hk;rw[show C'.blk b= .gone from hk];trivial
  |var cs=>rw[hy]at hk;obtain⟨ds,hd⟩:=hk;rw[hd];trivial
  |map es=>rw[hy]at hk;obtain⟨ds,hd⟩:=hk;rw[hd];trivial
  |rowA cs=>
   rw[hy]at hk h
   rcases hk with hk|⟨ds,hd,hn⟩
   ·rw[hk];trivial
   ·rw[hd]
    obtain⟨c,hc,hv⟩:=h
    exact⟨c,E.loc b c hc,by rw[hn];exact hv⟩
  |row t xs f=>
   rw[hy]at hk h
   rcases hk with hk|⟨hl,ys,g,hd,hn,_⟩
   ·rw[hk];trivial
   ·rw[hd]
    dsimp only at h|-
    rw[hl]
    cases hc:C.loc b with
    |none=>rw[hc]at h;exact⟨h.1,by rw[h.2]at hn;exact ly (by simpa using hn)⟩
    |some c=>
     rw[hc]at h
     obtain⟨cap,T,n,hv,h1,h2,h3⟩:=h
     exact⟨cap,T,n,by rw[hn];exact hv,by omega,E.shape c _ h2,h3⟩
 |suf b m=>
  obtain⟨hu,hsl,hm,h⟩:=h
  refine⟨E.used b hu,hsl,hm,?_⟩
  have hk:=E.keep b hu
  cases hy:C.blk b with
  |gone=>rw[hy]at hk;rw[show C'.blk b= .gone from hk];trivial
  |var cs=>rw[hy]at hk;obtain⟨ds,hd⟩:=hk;rw[hd];trivial
  |map es=>rw[hy]at hk;obtain⟨ds,hd⟩:=hk;rw[hd];trivial
  |rowA cs=>
   rw[hy]at hk
   rcases hk with hk|⟨ds,hd,_⟩
   ·rw[hk];trivial
   ·rw[hd];trivial
  |row t xs f=>
   rw[hy]at hk h
   rcases hk with hk|⟨hl,ys,g,hd,hn,_⟩
   ·rw[hk];trivial
   ·rw[hd]
    dsimp only at h|-
    obtain⟨h1,a,cap,hv,h2⟩:=h
    refine⟨by rw[hn];exact h1,a,cap,by rw[hn];exact hv,fun hlt=>?_⟩
    rw[hn]at hlt
    obtain⟨c,hc,ha⟩:=h2 hlt
    exact⟨c,E.loc b c hc,ha⟩
 |pre b m=>
  obtain⟨hu,hsl,hm,h⟩:=h
  refine⟨E.used b hu,hsl,hm,?_⟩
  have hk:=E.keep b hu
  cases hy:C.blk b with
  |gone=>rw[hy]at hk;rw[show C'.blk b= .gone from hk];trivial
  |var cs=>rw[hy]at hk;obtain⟨ds,hd⟩:=hk;rw[hd];trivial
  |map es=>rw[hy]at hk;obtain⟨ds,hd⟩:=hk;rw[hd];trivial
  |rowA cs=>
   rw[hy]at hk h
   rcases hk with hk|⟨ds,hd,hn⟩
   ·rw[hk];trivial
   ·rw[hd]
    obtain⟨h1,c,cap,hc,hv⟩:=h
    exact⟨by rw[hn];exact h1,c,cap,E.loc b c hc,hv⟩
  |row t xs f=>
   rw[hy]at hk h
   rcases hk with hk|⟨hl,ys,g,hd,hn,_⟩
   ·rw[hk];trivial
   ·rw[hd]
    dsimp only at h|-
    rw[hl,hn]
    exact h
 |mapr b=>obtain⟨c,hc,hv⟩:=h;exact⟨c,E.loc b c hc,hv⟩
 |err b=>cases b<;>exact h
 |_=>exact h
theorem jw.imp {α β:Type}{R R':α->β->Prop}:∀ {as:List α} {bs:List β},(∀a b,a∈as->R a b->R' a b)->jw R as bs->jw R' as bs
 |[],[],_,_=>trivial
 |_::_,_::_,h,⟨h1,h2⟩=>⟨h _ _ (by simp) h1,jw.imp (fun a b ha=>h a b (by simp[ha])) h2⟩
 |[],_::_,_,h=>h.elim
 |_::_,[],_,h=>h.elim
theorem VR.ext (E:Ext C C'){a:AV}{v:Value}(h:VR C a v):VR C' a v:=by
 cases a with
 |func fn f c=>obtain⟨f',c',hv,h1,h2⟩:=h;exact⟨f',c',hv,h1.imp fun _ _ _=>VP.ext E,h2.imp fun _ _ _=>VP.ext E⟩
 |_=>simp only[VR]at h|-;exact VP.ext E h
theorem ER.ext (E:Ext C C'){a:AV}{g g':Nat->Option Value}{o:Nat}(hg:∀j,j<a.width->g' (o+j)=g (o+j))(h:ER C a g o):ER C' a g' o:=by
 cases a with
 |arr t n xs=>intro j hj;obtain⟨v,e,h1,h2,h3⟩:=h j hj;exact⟨v,e,by rw[hg j hj];exact h1,h2,h3⟩
 |_=>obtain⟨v,h1,h2⟩:=h;exact⟨v,by rw[show g' o=g o from hg 0 (by simp[AV.width])];exact h1,VR.ext E h2⟩
theorem CR.ext (E:Ext C C'){cs:List AV}{g:Nat->Option Value}(h:CR C cs g):CR C' cs g:=fun i a ha=>ER.ext E (fun _ _=>rfl) (h i a ha)
theorem TR1.ext (E:Ext C C'){a:AV}{v:Value}(h:TR1 C a v):TR1 C' a v:=by
 cases a with
 |agg cs=>obtain⟨l,hv,hs,hc⟩:=h;exact⟨l,hv,hs,hc.ext E⟩
 |_=>simp only[TR1]at h|-;exact VR.ext E h
theorem TR.ext (E:Ext C C'){a:AV}{v:Value}(h:TR C a v):TR C' a v:=by
 cases a with
 |tup vs=>obtain⟨l,hv,hc⟩:=h;exact⟨l,hv,hc.imp fun _ _ _=>TR1.ext E⟩
 |_=>simp only[TR]at h|-;exact TR1.ext E h
end ext
end Go.Den
namespace Go.Den
open Go.RowKit (Below)
structure Bs where
 w0:World
 np:Nat
 loc0:Nat->Option Nat
 ok0:Nat->Prop
 hs0:Nat->Blk
 wr:List (Nat×Nat×Nat)
def j7 (B:Bs)(i o:Nat):Prop:=
 ∃lo hi,(i,lo,hi)∈B.wr/\((lo=0/\big<=hi)\/∃cs,B.hs0 i= .var cs/\∃k,lo<=k/\k<hi/\lL cs k<=o/\o<lL cs (k+1))
def wrt:Blk->Bool
 | .gone=>false
 | .row _ _ true=>false
 |_=>true
def WK (x y:Blk):Prop:=(∀cs,x= .var cs->∃ds,y= .var ds/\ds.map AV.width=cs.map AV.width)/\(∀ds,y= .var ds->∃cs,x= .var cs)
structure Inv (B:Bs)(s:St)(C:Cx):Prop where
 eqb:∀b,C.blk b=s.blk b
 bl:∀b,BR C b (s.blk b)
 inj:∀b b' c,s.blk b≠ .gone->s.blk b'≠ .gone->C.loc b=some c->C.loc b'=some c->b=b'
 lt:∀b c,C.loc b=some c->c<C.w.heap.size
 us:∀b,¬C.used b->s.blk b= .gone/\C.loc b=none
 okd:∀c,C.ok c->c<C.w.heap.size/\∀b,wrt (s.blk b)=true->C.loc b≠some c
 okS:∀c,C.ok c->B.ok0 c\/B.w0.heap.size<=c\/∃i,i<B.np/\B.loc0 i=some c/\wrt (s.blk i)=false/\∀o,j7 B i o
 own:∀b c,s.blk b≠ .gone->C.loc b=some c->(∃i,i<B.np/\B.loc0 i=some c/\(i=b\/∀o,j7 B i o))\/B.w0.heap.size<=c
 lt0:∀i c,i<B.np->B.loc0 i=some c->c<B.w0.heap.size
 inj0:∀i j c,i<B.np->j<B.np->B.loc0 i=some c->B.loc0 j=some c->i=j
 pas:∀b,b<B.np->C.loc b=B.loc0 b
 pus:∀b,b<B.np->C.used b
 frm:Below 0 B.w0 C.w/\∀c,c<B.w0.heap.size->(∀i,i<B.np->B.loc0 i≠some c)->C.w.heap[c]? =B.w0.heap[c]?
 prt:∀i,i<B.np->∀c,B.loc0 i=some c->∀o,¬j7 B i o->C.w.cell? ⟨c,o,none⟩=B.w0.cell? ⟨c,o,none⟩
 prt2:∀i,i<B.np->∀c,B.loc0 i=some c->(∀o,¬j7 B i o)->C.w.heap[c]? =B.w0.heap[c]?
 stay:∀i,i<B.np->(∀o,¬j7 B i o)->(B.hs0 i≠ .gone->s.blk i≠ .gone)/\(wrt (B.hs0 i)=true->wrt (s.blk i)=true)
 shp:∀c x,B.w0.shape? c=some x->C.w.shape? c=some x
 wid:∀i,i<B.np->WK (B.hs0 i) (s.blk i)
 npn:s.np=B.np
 all:s.al=B.wr
structure AInv (nt:Nat)(s:St)(C:Cx)(a:Act):Prop where
 dfr:a.defers=[]
 siz:a.tmps.size=nt
 tm:∀i,TR C (s.get i) (a.tmps.getD i undef)
theorem JA (a:Act)(d:Option Tmp)(v:Value):(a.put d v).tmps.size=a.tmps.size:=by
 cases d<;>simp[Act.put]
theorem Et (a:Act)(d:Option Tmp)(v:Value):(a.put d v).defers=a.defers:=by
 cases d<;>rfl
theorem j4 {a b:Nat}:Nat.beq a b=true↔a=b:=by rw[Nat.beq_eq]
theorem Fj {a b:Nat}:Nat.beq a b=false↔a≠b:=by
 rw[<-my,Nat.beq_eq]
theorem look_cons.{u}{α:Type u}(k:Nat)(v:α)(r:List (Nat×α))(i:Nat):look ((k,v)::r) i=if k=i then some v else look r i:=by
 simp only[look]
 by_cases h:k=i
 ·rw[aa h,j4.2 h]
 ·rw[ae h,Fj.2 h]
theorem lW (s:St)(d:Option Tmp)(v:AV)(i:Nat):(s.put d v).get i=if d=some i then v else s.get i:=by
 cases d with
 |none=>simp[St.put]
 |some k=>
  simp only[St.put,St.get,look_cons,Option.some.injEq]
  by_cases h:k=i<;>simp[h]
theorem gV (s:St)(d:Option Tmp)(v:AV):(s.put d v).blk=s.blk:=by cases d<;>rfl
theorem yM (s:St)(d:Option Tmp)(v:AV):(s.put d v).n=s.n:=by cases d<;>rfl
theorem ry (s:St)(d:Option Tmp)(v:AV):(s.put d v).np=s.np:=by cases d<;>rfl
theorem rv (s:St)(d:Option Tmp)(v:AV):(s.put d v).al=s.al:=by cases d<;>rfl
theorem AInv.put {nt:Nat}{s s':St}{C C':Cx}{a:Act}(h:AInv nt s C a)(E:Ext C C')(hs:∀i,s'.get i=s.get i){d:Option Tmp}(hd:∀i,d=some i->i<nt){v:AV}{x:Value}(hv:TR C' v x):
  AInv nt (s'.put d v) C' (a.put d x) where
 dfr:=by rw[Et];exact h.dfr
 siz:=by rw[JA];exact h.siz
 tm i:=by
  rw[lW]
  cases d with
  |none=>simp only[reduceCtorEq,if_false];rw[hs];exact(h.tm i).ext E
  |some k=>
   have hk:=hd k rfl
   by_cases e:k=i
   ·subst e
    simp only[if_true,Act.put]
    rw[show(a.tmps.setIfInBounds k x).getD k undef=x from by simp[Array.getD,h.siz,hk]]
    exact hv
   ·simp only[Option.some.injEq,e,if_false,Act.put]
    rw[show(a.tmps.setIfInBounds k x).getD i undef=a.tmps.getD i undef from by simp[sO e],hs]
    exact(h.tm i).ext E
theorem sq (C:Cx){v:Value}{a:AV}(h:vO v=some a):a.width=1/\VR C a v:=by
 unfold vO at h
 split at h<;>first
  |(cases h;done)
  |(obtain rfl:=aw h;exact⟨rfl,rfl⟩)
theorem Eh (C:Cx):∀(vs:List Value) (cs:List AV),tG vs=some cs->cs.length=vs.length/\(∀a∈cs,a.width=1)/\∀(i:Nat) a,cs[i]? =some a->∃v,vs[i]? =some v/\VR C a v:=by
 intro vs
 induction vs with
 |nil=>intro cs h;simp[tG]at h;subst h;exact⟨rfl,by simp,by simp⟩
 |cons v r ih=>
  intro cs h
  unfold tG at h
  split at h
  ·rename_i a l ha hl
   obtain rfl:=aw h
   obtain⟨h1,h2,h3⟩:=ih l hl
   obtain⟨hw,hr⟩:=sq C ha
   refine⟨by simp[h1],fun b hb=>?_,fun i b hb=>?_⟩
   ·rcases aN.1 hb with rfl|hb
    ·exact hw
    ·exact h2 b hb
   ·cases i with
    |zero=>simp at hb;subst hb;exact⟨v,rfl,hr⟩
    |succ i=>exact h3 i b (by simpa using hb)
  ·cases h
theorem jU:∀(cs:List AV),(∀a∈cs,a.width=1)->∀i,i<=cs.length->lL cs i=i:=by
 intro cs
 induction cs with
 |nil=>intro _ i hi;cases i with
  |zero=>rfl
  |succ i=>simp at hi
 |cons a r ih=>
  intro h i hi
  cases i with
  |zero=>rfl
  |succ i=>simp only[lL];rw[h a (by simp),ih (fun b hb=>h b (by simp[hb])) i (by simpa using hi)];omega
theorem gw:∀(cs:List AV),(∀a∈cs,a.width=1)->bw cs=cs.length:=by
 intro cs
 induction cs with
 |nil=>intro _;rfl
 |cons a r ih=>intro h;simp only[bw,fa];rw[h a (by simp),ih fun b hb=>h b (by simp[hb])];omega
theorem ER.of_one {C:Cx}{a:AV}{g:Nat->Option Value}{o:Nat}(ha:∀t n xs,a≠ .arr t n xs):ER C a g o↔∃v,g o=some v/\VR C a v:=by
 cases a with
 |arr t n xs=>exact ah rfl (ha t n xs)
 |_=>exact Iff.rfl
theorem VR.not_arr {C:Cx}{a:AV}{v:Value}(h:VR C a v):∀t n xs,a≠ .arr t n xs:=by
 rintro t n xs rfl
 exact h
theorem DN (C:Cx)(v:Value):TR C (ofValue v) v:=by
 have one:∀(v:Value),TR C (Kv (vO v)) v:=by
  intro v
  cases h:vO v with
  |none=>exact trivial
  |some a=>
   have:=(sq C h).2
   cases a<;>first|exact this|exact this.elim
 cases v with
 |agg cs=>
  simp only[ofValue]
  cases h:tG cs.toList with
  |none=>exact trivial
  |some l=>
   obtain⟨h1,h2,h3⟩:=Eh C cs.toList l h
   refine⟨cs,rfl,by rw[gw l h2,h1];simp,fun i a ha=>?_⟩
   obtain⟨u,hu,hr⟩:=h3 i a ha
   have hi:i<l.length:=(bj.1 ha).1
   rw[jU l h2 i (by omega)]
   exact(ER.of_one hr.not_arr).2 ⟨u,by simpa using hu,hr⟩
 |_=>simp only[ofValue];exact one _
theorem gp {nt:Nat}{s:St}{C:Cx}{a:Act}(h:AInv nt s C a)(x:Operand):TR C (s.ev x) (a.eval x):=by
 cases x with
 |tmp t=>exact h.tm t
 |const v=>exact DN C v
 |func f=>exact⟨#[],#[],rfl,trivial,trivial⟩
 |global g=>exact trivial
structure Post1 (B:Bs)(nt:Nat)(s:St)(C:Cx)(e:Eff)(d:Option Tmp)(a':Act)(w':World)(C':Cx):Prop where
 w:C'.w=w'
 inv:Inv B (s.apply d e) C'
 ain:AInv nt (s.apply d e) C' a'
 ext:Ext C C'
 use:∀b,C'.used b↔C.used b\/(s.n<=b/\b<s.n+lenN e.new)
 quiet:e.upd=[]->Below C.w.heap.size C.w w'
theorem xP (s:St)(d:Option Tmp)(v:AV):(s.apply d ⟨v,[],[]⟩).blk=s.blk:=by
 simp only[St.apply,gV];rfl
theorem Inv.same {B:Bs}{s s':St}{C:Cx}(h:Inv B s C)(hb:s'.blk=s.blk)(hn:s'.np=s.np)(ha:s'.al=s.al):Inv B s' C where
 eqb b:=by rw[hb];exact h.eqb b
 bl b:=by rw[hb];exact h.bl b
 inj b b' c:=by rw[hb];exact h.inj b b' c
 lt:=h.lt
 us b hu:=by rw[hb];exact h.us b hu
 okd c hc:=by rw[hb];exact h.okd c hc
 okS c hc:=by rw[hb];exact h.okS c hc
 own b c:=by rw[hb];exact h.own b c
 lt0:=h.lt0
 inj0:=h.inj0
 pas:=h.pas
 pus:=h.pus
 frm:=h.frm
 prt:=h.prt
 prt2:=h.prt2
 stay i hi hm:=by rw[hb];exact h.stay i hi hm
 shp:=h.shp
 wid i hi:=by rw[hb];exact h.wid i hi
 npn:=hn.trans h.npn
 all:=ha.trans h.all
theorem sC {B:Bs}{nt:Nat}{s:St}{C:Cx}{a:Act}{d:Option Tmp}{v:AV}{x:Value}(hI:Inv B s C)(hA:AInv nt s C a)(hd:∀i,d=some i->i<nt)(hv:TR C v x):
  Post1 B nt s C ⟨v,[],[]⟩ d (a.put d x) C.w C where
 w:=rfl
 inv:=hI.same (xP s d v) (by simp only[St.apply,ry]) (by simp only[St.apply,rv])
 ain:=by
  have:=hA.put (Ext.refl C) (s':={s with h:=iM s.n [] (cF [] s.h),n:=s.n+lenN ([]:List Blk),w:=match isNil ([]:List (Nat×WU))with|true=>s.w|false=>true}) (fun _=>rfl) hd hv
  exact this
 ext:=Ext.refl C
 use b:=by simp only[lenN];constructor
           ·exact .inl
           ·rintro(h|h);exact h;omega
 quiet _:=Below.refl _ _
end Go.Den
namespace Go.Den
theorem takeN_eq.{u}{α:Type u}:∀(n:Nat) (l:List α),takeN n l=l.take n
 |0,_=>by simp[takeN]
 |_+1,[]=>by simp[takeN]
 |n+1,a::r=>by simp[takeN,takeN_eq n r]
theorem dropN_eq.{u}{α:Type u}:∀(n:Nat) (l:List α),dropN n l=l.drop n
 |0,_=>by simp[dropN]
 |_+1,[]=>by simp[dropN]
 |n+1,a::r=>by simp[dropN,dropN_eq n r]
theorem setN_eq.{u}{α:Type u}:∀(l:List α) (n:Nat) (v:α),setN l n v=l.set n v
 |[],_,_=>by simp[setN]
 |_::_,0,_=>by simp[setN]
 |a::r,n+1,v=>by simp[setN,setN_eq r n v]
theorem lenN_eq.{u}{α:Type u}:∀(l:List α),lenN l=l.length
 |[]=>rfl
 |_::r=>by simp[lenN,lenN_eq r]
theorem nth_eq.{u}{α:Type u}:∀(l:List α) (n:Nat),nth l n=l[n]?
 |[],_=>by simp[nth]
 |_::_,0=>by simp[nth]
 |_::r,n+1=>by simp[nth,nth_eq r n]
theorem ji:∀(cs:List AV) (i:Nat),i<=cs.length->lL cs i=bw (cs.take i)
 |_,0,_=>by simp[lL,bw]
 |[],i+1,h=>by simp at h
 |a::r,i+1,h=>by simp only[lL,sY,bw];rw[ji r i (by simpa using h)]
theorem bO:∀(x y:List AV),bw (x++y)=bw x+bw y
 |[],y=>by simp[bw]
 |x::r,y=>by simp only[ol,bw,bO r y];omega
theorem vj:∀(cs:List AV) (o i:Nat),HO cs o=some i->i<=cs.length/\bw (cs.take i)=o
 |cs,0,i,h=>by simp[HO]at h;subst h;simp[bw]
 |[],o+1,i,h=>by simp[HO]at h
 |a::r,o+1,i,h=>by
  simp only[HO]at h
  split at h
  ·rename_i hle
   split at h
   ·rename_i j hj
    obtain rfl:=aw h
    obtain⟨h1,h2⟩:=vj r _ j hj
    have:a.width<=o+1:=i9 hle
    refine⟨by simp;omega,?_⟩
    simp only[sY,bw,h2];omega
   ·cases h
  ·cases h
theorem jV {cs r:List AV}{o n i:Nat}(h:uq cs o n=some (i,r)):
  cs=cs.take i++(r++cs.drop (i+r.length))/\i+r.length<=cs.length/\bw (cs.take i)=o/\bw r=n/\r=(cs.drop i).take r.length:=by
 simp only[uq]at h
 split at h
 ·rename_i j hj
  split at h
  ·rename_i m hm
   obtain⟨rfl,rfl⟩:=Prod.mk.inj (aw h)
   obtain⟨h1,h2⟩:=vj cs o j hj
   obtain⟨h3,h4⟩:=vj _ n m hm
   simp only[takeN_eq,dropN_eq]at*
   have hl:((cs.drop j).take m).length=m:=by simp at h3|-;omega
   refine⟨?_,?_,h2,h4,by rw[hl]⟩
   ·rw[hl]
    have e1:=(sU j cs).symm
    have e2:=(sU m (cs.drop j)).symm
    rw[List.drop_drop]at e2
    calc cs=cs.take j++cs.drop j:=e1
     _=cs.take j++((cs.drop j).take m++cs.drop (j+m)):=by rw[<-e2]
   ·rw[hl];simp at h3;omega
  ·cases h
 ·cases h
section
variable {C:Cx}
theorem ER.shift {a:AV}{g:Nat->Option Value}{w k:Nat}:ER C a (fun o=>g (w+o)) k↔ER C a g (w+k):=by
 cases a with
 |arr t n xs=>
  constructor
  ·intro h j hj;obtain⟨v,e,h1,h2,h3⟩:=h j hj;exact⟨v,e,by rw[iz];exact h1,h2,h3⟩
  ·intro h j hj;obtain⟨v,e,h1,h2,h3⟩:=h j hj;exact⟨v,e,by dsimp only;rw[<-iz];exact h1,h2,h3⟩
 |_=>exact Iff.rfl
theorem CR.mk {a:AV}{r:List AV}{g:Nat->Option Value}(h1:ER C a g 0)(h2:CR C r (fun o=>g (a.width+o))):CR C (a::r) g:=by
 intro i x hx
 cases i with
 |zero=>simp at hx;subst hx;exact h1
 |succ i=>exact ER.shift.1 (h2 i x (by simpa using hx))
theorem CR.mid {p r q:List AV}{g:Nat->Option Value}(h:CR C (p++(r++q)) g):CR C r (fun o=>g (bw p+o)):=by
 intro i a ha
 have hi:i<r.length:=(bj.1 ha).1
 have:=h (p.length+i) a (by rw[mQ (by omega),Nat.add_sub_cancel_left,lB hi];exact ha)
 have ho:lL (p++(r++q)) (p.length+i)=bw p+lL r i:=by
  rw[ji _ _ (by simp;omega),ji r i (by omega),<-bO]
  congr 1
  simp only[List.take_append,Nat.add_sub_cancel_left]
  have h1:List.take (p.length+i) p=p:=List.take_of_length_le (by omega)
  have h2:List.take (i-r.length) q=[]:=by rw[show i-r.length=0 by omega];simp
  rw[h1,h2,qD]
 rw[ho]at this
 exact ER.shift.2 this
theorem CR.sub {cs r:List AV}{o n i:Nat}{g:Nat->Option Value}(h:CR C cs g)(hs:uq cs o n=some (i,r)):CR C r (fun k=>g (o+k)):=by
 obtain⟨h1,_,h3,_,_⟩:=jV hs
 rw[h1]at h
 have:=h.mid
 rwa [h3]at this
theorem CR.cons {a:AV}{r:List AV}{g:Nat->Option Value}(h:CR C (a::r) g):ER C a g 0/\CR C r (fun o=>g (a.width+o)):=by
 refine⟨h 0 a rfl,?_⟩
 have:=CR.mid (p:=[a]) (r:=r) (q:=[]) (g:=g) (by simpa using h)
 simpa[bw]using this
theorem CR.cells:∀ {cs:List AV} {g:Nat->Option Value},CR C cs g->∀o,o<bw cs->∃v,g o=some v
 |[],_,_,o,ho=>by simp[bw]at ho
 |a::r,g,h,o,ho=>by
  obtain⟨h1,h2⟩:=h.cons
  by_cases hw:o<a.width
  ·cases a with
   |arr t n xs=>obtain⟨v,e,hv,_,_⟩:=h1 o hw;exact⟨v,by simpa using hv⟩
   |_=>obtain⟨v,hv,_⟩:=h1;obtain rfl:o=0:=by simp[AV.width]at hw;exact hw
       exact⟨v,hv⟩
  ·obtain⟨v,hv⟩:=CR.cells h2 (o-a.width) (by simp[bw]at ho;omega)
   exact⟨v,by rw[show a.width+(o-a.width)=o by omega]at hv;exact hv⟩
theorem CR.congr {cs:List AV}{g g':Nat->Option Value}(h:CR C cs g)(e:∀o,o<bw cs->g' o=g o):CR C cs g':=by
 intro i a ha
 have hi:i<cs.length:=(bj.1 ha).1
 refine ER.ext (Ext.refl C) (fun j hj=>e _ ?_) (h i a ha)
 rw[ji cs i (by omega)]
 have h1:=sU (i+1) cs
 have h2:bw cs=bw (cs.take (i+1))+bw (cs.drop (i+1)):=by rw[<-bO,h1]
 have h3:cs.take (i+1)=cs.take i++[a]:=by
  rw[List.take_add_one,ha];rfl
 rw[h3,bO]at h2
 simp only[bw]at h2
 omega
theorem CR.list {cs:List AV}{g:Nat->Option Value}(h:CR C cs g):∃l:List Value,l.length=bw cs/\(∀j v,l[j]? =some v->g j=some v)/\CR C cs (fun o=>l[o]?):=by
 refine⟨(List.range (bw cs)).map (fun o=>(g o).getD undef),by simp,fun j v hv=>?_,h.congr fun o ho=>?_⟩
 ·have hj:j<bw cs:=by have:=(bj.1 hv).1;simpa using this
  obtain⟨u,hu⟩:=h.cells j hj
  simp[hj,hu]at hv
  rw[hu,hv]
 ·obtain⟨u,hu⟩:=h.cells o ho
  simp[ho,hu]
theorem jm (t:Tag)(x:El t):∀a∈enc t x,a.width=1:=by
 cases t<;>simp[enc,HN,AV.width]
theorem fj (t:Tag)(x:El t):(enc t x).length=esz t:=by
 cases t<;>rfl
theorem kG (t:Tag)(x:El t):∀a∈enc t x,∀t' n xs,a≠ .arr t' n xs:=by
 cases t<;>simp[enc,HN]
theorem R1.vr {a:AV}{v:Value}(h:R1 C.w C.ok a v):VR C a v:=by
 rcases h with h|⟨t,xs,rfl,h⟩
 ·cases a<;>simp[R0,AA]at h<;>exact h.symm
 ·exact h.ext (fun _ _ h=> .inl h) (Ext.refl C)
theorem R0.vr {a:AV}{v:Value}(h:AA a=some v):VR C a v:=R1.vr (.inl h)
theorem HJ.elem {t:Tag}{xs:List (El t)}{c o:Nat}(h:HJ (R1 C.w C.ok) C.w C.ok t xs c o){i:Nat}{x:El t}(hx:xs[i]? =some x):
  CR C (enc t x) (fun k=>C.w.cell? ⟨c,o+i*esz t+k,none⟩):=by
 intro j a ha
 obtain⟨v,hv,hr⟩:=h.2 i x hx j a ha
 have hj:j<(enc t x).length:=(bj.1 ha).1
 rw[jU _ (jm t x) j (by omega)]
 exact(ER.of_one (kG t x a (cw ha))).2 ⟨v,hv,hr.vr⟩
theorem Bo {α:Type}{xs:List α}{i:Int}{d:α}(h0:0<=i)(h1:i<xs.length):xs[i.toNat]? =some (bk xs i d):=by
 have hi:i.toNat<xs.length:=by omega
 simp[bk,List.getD,co hi]
end
def nM:List AV->List Value->Bool
 |[],[]=>true
 | .arr t n []::r,vs=>(match enc t (aJ t)with
  |[.int k 0]=>takeN n vs|>.all fun v=>match v with| .int k' 0=>pK k k'|_=>false
  |[.bool false]=>takeN n vs|>.all fun v=>match v with| .bool false=>true|_=>false
  |_=>false)&&Nat.ble n (lenN vs)&&nM r (dropN n vs)
 |a::r,v::vs=>(match vO v,a with
  |some (.bool false),.bool false=>true
  |some (.int k 0),.int k' 0=>pK k k'
  |some (.str []),.str []=>true
  |some .nilp,.nilp=>true
  |some .nils,.nils=>true
  |some .nilf,.nilf=>true
  |some (.err true),.err true=>true
  |none,.dead=>true
  |_,_=>false)&&nM r vs
 |_,_=>false
def eJ (d:TypeDesc):TD->Bool
 | .bool=>match d with| .bool=>true|_=>false
 | .int k=>match d with| .int k'=>pK k k'|_=>false
 | .str=>match d with| .string=>true|_=>false
 | .ptr e=>match d with| .pointer e'=>Nat.beq e e'|_=>false
 | .fn=>match d with| .func _ _ _=>true|_=>false
 | .iface=>match d with| .interface _=>true|_=>false
 | .slice e=>match d with| .slice e'=>Nat.beq e e'|_=>false
 | .array n e=>match d with| .array n' e'=>Nat.beq n n'&&Nat.beq e e'|_=>false
 | .map k e=>match d with| .map k' e'=>Nat.beq k k'&&Nat.beq e e'|_=>false
 | .struct fs=>match d with| .struct gs=>fieldsOK fs gs.toList|_=>false
where fieldsOK:List (Nat×TypeId)->List Field->Bool
 |[],[]=>true
 |(o,t)::r,g::gs=>Nat.beq o g.offset&&(Nat.beq t g.type&&fieldsOK r gs)
 |_,_=>false
def tyOK (P:Program)(t:TypeId)(ti:TI):Bool:=match P.info? t,P.underlying t with
 |some i,some d=>(match d with| .struct gs=>gs.toList.all fun f=>(P.info? f.type).isSome|_=>true)&&(Nat.beq i.size ti.size&&(Nat.beq i.bytes ti.bytes&&(eJ d ti.d&&((match i.zero with|some z=>Nat.beq (bw ti.zero) ti.size&&(nM ti.zero z.cells.toList&&(ti.agg||match z with| .agg _=>false|_=>true))|none=>false)&&
   (match ti.tag with|some tg=>Nat.beq ti.size (esz tg)&&(Nat.ble ti.bytes 256&&(match i.zero with|some z=>nM (enc tg (aJ tg)) z.cells.toList|none=>false))|none=>true)))))
 |_,_=>false
def Tr.all.{u}{α:Type u}(p:Nat->α->Bool):Tr α->Bool
 | .lf=>true
 | .nd k v l r=>p k v&&(l.all p&&r.all p)
theorem Tr.all_get.{u}{α:Type u}{p:Nat->α->Bool}:∀ {T:Tr α},T.all p=true->∀ {i:Nat} {v:α},T.get i=some v->p i v=true
 | .lf,_,_,_,h=>by simp[Tr.get]at h
 | .nd k x l r,hp,i,v,h=>by
  simp only[Tr.all,ar]at hp
  simp only[Tr.get]at h
  split at h
  ·rename_i e
   obtain rfl:=aw h
   rw[j4.1 e];exact hp.1
  ·split at h
   ·exact Tr.all_get hp.2.1 h
   ·exact Tr.all_get hp.2.2 h
def TOK (P:Program)(T:Tr TI):Prop:=T.all (tyOK P)=true
theorem gS {j k:IntKind}:pK j k=true↔j=k:=by cases j<;>cases k<;>decide
theorem wk {t t':Tag}:JU t t'=true↔t=t':=by cases t<;>cases t'<;>decide
theorem oJ {o:Option Tag}{t:Tag}:wx o t=true↔o=some t:=by
 cases o with
 |none=>simp[wx]
 |some x=>simp[wx,wk]
theorem J4 {k:IntKind}{n:Nat}{vs:List Value}(h:((takeN n vs).all fun v=>match v with| .int k' 0=>pK k k'|_=>false)=true)(hn:n<=vs.length)(j:Nat)(hj:j<n):vs[j]? =some (.int k 0):=by
 rw[takeN_eq]at h
 have hl:j<vs.length:=by omega
 have:=fc.1 h vs[j] (by rw[List.mem_take_iff_getElem];exact⟨j,by omega,rfl⟩)
 rw[co hl]
 split at this
 ·rename_i k' e;rw[e,gS.1 this]
 ·cases this
theorem FN {n:Nat}{vs:List Value}(h:((takeN n vs).all fun v=>match v with| .bool false=>true|_=>false)=true)(hn:n<=vs.length)(j:Nat)(hj:j<n):vs[j]? =some (.bool false):=by
 rw[takeN_eq]at h
 have hl:j<vs.length:=by omega
 have:=fc.1 h vs[j] (by rw[List.mem_take_iff_getElem];exact⟨j,by omega,rfl⟩)
 rw[co hl]
 split at this
 ·rename_i e;rw[e]
 ·cases this
theorem Iu {α:Type}(i:Int)(d:α):bk [] i d=d:=by simp[bk]
theorem lS (C:Cx):∀(cs:List AV) (vs:List Value),nM cs vs=true->bw cs=vs.length/\CR C cs (fun o=>vs[o]?):=by
 intro cs
 induction cs with
 |nil=>intro vs h;cases vs with
  |nil=>exact⟨rfl,fun i a ha=>by simp at ha⟩
  |cons=>simp[nM]at h
 |cons a r ih=>
  intro vs h
  have one:∀v (vs':List Value),vs=v::vs'->VR C a v->a.width=1->nM r vs'=true->bw (a::r)=vs.length/\CR C (a::r) (fun o=>vs[o]?):=by
   rintro v vs' rfl hv hw hz
   obtain⟨h1,h2⟩:=ih vs' hz
   refine⟨by simp[bw,hw,h1];omega,CR.mk ((ER.of_one hv.not_arr).2 ⟨v,rfl,hv⟩) ?_⟩
   rw[hw]
   refine h2.congr fun o _=>?_
   simp[ou 1 o]
  cases a with
  |arr t n xs=>
   cases xs with
   |cons=>cases vs<;>simp[nM]at h
   |nil=>
    simp only[nM,ar]at h
    obtain⟨⟨h1,h2⟩,h3⟩:=h
    have hn:n<=vs.length:=by have:=i9 h2;rwa [lenN_eq]at this
    rw[dropN_eq]at h3
    obtain⟨h4,h5⟩:=ih _ h3
    refine⟨by simp only[bw,AV.width,h4];simp;omega,CR.mk ?_ ?_⟩
    ·intro j hj
     rw[Iu,eP]
     split at h1
     ·rename_i k he;exact⟨.int k 0,.int k 0,J4 h1 hn j hj,he,rfl⟩
     ·rename_i he;exact⟨.bool false,.bool false,FN h1 hn j hj,he,rfl⟩
     ·cases h1
    ·simp only[AV.width]
     refine h5.congr fun o _=>by simp
  |_=>
   cases vs with
   |nil=>simp[nM]at h
   |cons v vs'=>
    simp only[nM,ar]at h
    obtain⟨h1,h2⟩:=h
    split at h1<;>first
     |(cases h1;done)
     |(rename_i he hb;cases hb;done)
     |(rename_i he hb;cases hb;exact one _ _ rfl (sq C he).2 rfl h2)
     |(rename_i he hb;cases hb;exact one _ _ rfl trivial rfl h2)
     |(rename_i he hb;cases hb;rw[gS]at h1;subst h1;exact one _ _ rfl (sq C he).2 rfl h2)
end Go.Den
namespace Go.Den
theorem TR.of_VR {C:Cx}{a:AV}{v:Value}(h:VR C a v):TR C a v:=by
 cases a<;>first|exact h|exact h.elim
theorem xm {C:Cx}{a:AV}{v:Value}(h:TR C a v)(h1:∀cs,a≠ .agg cs)(h2:∀vs,a≠ .tup vs):VR C a v:=by
 cases a<;>first|exact h|exact ah rfl (h1 _)|exact ah rfl (h2 _)
structure TyF (P:Program)(t:TypeId)(ti:TI)(i:TypeInfo)(d:TypeDesc):Prop where
 info:P.info? t=some i
 und:P.underlying t=some d
 size:i.size=ti.size
 bytes:i.bytes=ti.bytes
 desc:eJ d ti.d=true
 zero:∃z,i.zero=some z/\bw ti.zero=ti.size/\nM ti.zero z.cells.toList=true
 zagg:∀z,i.zero=some z->ti.agg=false->z.cells= #[z]
 flds:∀gs,d= .struct gs->∀f∈gs.toList,∃j,P.info? f.type=some j
 tag:∀tg,ti.tag=some tg->ti.size=esz tg/\ti.bytes<=256/\∃z,i.zero=some z/\nM (enc tg (aJ tg)) z.cells.toList=true
theorem TOK.fact {P:Program}{T:Tr TI}(h:TOK P T){t:TypeId}{ti:TI}(ht:T.get t=some ti):∃i d,TyF P t ti i d:=by
 have:=Tr.all_get h ht
 unfold tyOK at this
 split at this
 ·rename_i i d hi hd
  simp only[ar,j4]at this
  obtain⟨h0,h1,h2,h3,h4,h5⟩:=this
  refine⟨i,d,hi,hd,h1,h2,h3,?_,fun z hz ha=>?_,fun gs hgs f hf=>?_,fun tg htg=>?_⟩
  ·split at h4
   ·rename_i z hz
    simp only[ar,j4]at h4
    exact⟨z,hz,h4.1,h4.2.1⟩
   ·cases h4
  ·rw[hz,ha]at h4
   simp only[ar,kT]at h4
   cases z<;>first|rfl|exact ah h4.2.2 (by simp)
  ·subst hgs;exact Option.isSome_iff_exists.1 (fc.1 h0 f hf)
  ·rw[htg]at h5
   simp only[ar,j4]at h5
   obtain⟨h6,h7,h8⟩:=h5
   refine⟨h6,i9 h7,?_⟩
   split at h8
   ·rename_i z hz;exact⟨z,hz,h8⟩
   ·cases h8
 ·cases this
section
variable {P:Program}{T:Tr TI}{t:TypeId}{ti:TI}{i:TypeInfo}{d:TypeDesc}
theorem TyF.run_size (h:TyF P t ti i d)(w:World):(sizeOf t).run P w= .ok ti.size w:=by
 simp[sizeOf,typeInfo,h.info,h.size]
theorem TyF.run_und (h:TyF P t ti i d)(w:World):(underlying t).run P w= .ok d w:=run_underlying h.und w
theorem TyF.agg_iff (h:TyF P t ti i d):ti.agg=d.isRow:=by
 have:=h.desc
 unfold TI.agg
 cases hd:ti.d<;>rw[hd]at this<;>cases d<;>simp_all[eJ,TypeDesc.isRow]
theorem TyF.run_isAgg (h:TyF P t ti i d)(w:World):(isAgg t).run P w= .ok ti.agg w:=by
 rw[h.agg_iff]
 unfold isAgg
 rw[Sem.run_bind,h.run_und w]
 cases d<;>simp[TypeDesc.isRow]
end
section
variable {P:Program}{T:Tr TI}{B:Bs}{s:St}{C:Cx}
theorem Ds {agg:Bool}{r:List AV}{asks:List Bool}{e:Eff}(h:KD agg r= .ret asks e):
  asks=[]/\e.upd=[]/\e.new=[]/\((agg=true/\e.v= .agg r)\/(agg=false/\r=[e.v]/\∀t n xs,e.v≠ .arr t n xs)):=by
 unfold KD val at h
 split at h
 ·obtain⟨rfl,rfl⟩:=OpRes.ret.inj h;exact⟨rfl,rfl,rfl,.inl ⟨rfl,rfl⟩⟩
 ·split at h
  ·cases h
  ·rename_i c hc
   obtain⟨rfl,rfl⟩:=OpRes.ret.inj h
   exact⟨rfl,rfl,rfl,.inr ⟨rfl,rfl,fun t n xs he=>hc t n xs (by simpa using he)⟩⟩
  ·cases h
theorem yS {t:TypeId}{ti:TI}{i:TypeInfo}{d:TypeDesc}(F:TyF P t ti i d){c o:Nat}{r:List AV}(hw:bw r=ti.size)(hc:CR C r (fun k=>C.w.cell? ⟨c,o+k,none⟩))
  {asks:List Bool} {e:Eff} (h:KD ti.agg r= .ret asks e):
  asks=[]/\e.upd=[]/\e.new=[]/\∃x,(Instr.loadAt t (.pointer (some ⟨c,o,none⟩))).run P C.w= .ok x C.w/\TR C e.v x:=by
 obtain⟨h1,h2,h3,h4⟩:=Ds h
 refine⟨h1,h2,h3,?_⟩
 rcases h4 with ⟨ha,hv⟩|⟨ha,rfl,hn⟩
 ·obtain⟨l,hl,hg,hcr⟩:=hc.list
  refine⟨.agg l.toArray,run_loadAt_mid C.w c o t l d (fun j v hv=>hg j v hv) F.und (by rw[<-F.agg_iff,ha]) (by rw[F.info];simp[F.size,hl,hw]),?_⟩
  rw[hv]
  exact⟨l.toArray,rfl,by simp[hl],by simpa using hcr⟩
 ·obtain⟨v,hv,hr⟩:=(ER.of_one hn).1 (hc.cons).1
  refine⟨v,?_,TR.of_VR hr⟩
  have:=F.run_isAgg C.w
  rw[ha]at this
  simp at hv
  simp[Instr.loadAt,Instr.sureAddr,Sem.run_bind,loadVar,this,hv]
theorem AO {b:Nat}{cs:List AV}(h:BR C b (.var cs)):∃c,C.loc b=some c/\CR C cs (fun o=>C.w.cell? ⟨c,o,none⟩):=by
 obtain⟨c,arr,T',fr,hl,hh,_,hc,_⟩:=h
 exact⟨c,hl,hc.congr fun o _=>by simp[World.cell?,hh]⟩
theorem tB {C:Cx}{b c c':Nat}(h:C.loc b=some c)(h':C.loc b=some c'):c=c':=by rw[h]at h';exact aw h'
theorem v8 {b c:Nat}{t:Tag}{xs:List (El t)}{f:Bool}(h:BR C b (.row t xs f))(hl:C.loc b=some c){k:Nat}{x:El t}(hx:xs[k]? =some x):
  CR C (enc t x) (fun o=>C.w.cell? ⟨c,k*esz t+o,none⟩):=by
 simp only[BR,hl]at h
 obtain⟨arr,T',fr,hh,⟨_,hr⟩,_⟩:=h
 intro j a ha
 obtain⟨v,hv,hr⟩:=hr k x hx j a ha
 have hj:j<(enc t x).length:=(bj.1 ha).1
 rw[jU _ (jm t x) j (by omega)]
 exact(ER.of_one (kG t x a (cw ha))).2 ⟨v,by simp[World.cell?,hh,hv],hr.vr⟩
theorem xd (hT:TOK P T)(hI:Inv B s C){t:TypeId}{av:AV}{v:Value}(hv:TR C av v){asks:List Bool}{e:Eff}(h:yB T s t av= .ret asks e):
  asks=[]/\e.upd=[]/\e.new=[]/\∃x,(Instr.loadAt t v).run P C.w= .ok x C.w/\TR C e.v x:=by
 unfold yB at h
 split at h
 ·cases h
 ·rename_i ti ht
  obtain⟨i,d,F⟩:=hT.fact ht
  split at h
  ·
   rename_i b off
   obtain⟨c,hc,rfl⟩:=(hv:VP C (.ptr b off) v)
   have go:∀cs,s.blk b= .var cs\/s.blk b= .rowA cs->(match uq cs off ti.size with|some (_,r)=>KD ti.agg r|none=> .none)= .ret asks e->asks=[]/\e.upd=[]/\e.new=[]/\∃x,(Instr.loadAt t (.pointer (some ⟨c,off,none⟩))).run P C.w= .ok x C.w/\TR C e.v x:=by
    intro cs hb h
    have hbl:BR C b (.var cs):=by have:=hI.bl b;rcases hb with hb|hb<;>rw[hb]at this<;>exact this
    obtain⟨c',hl,hcr⟩:=AO hbl
    obtain rfl:=tB hc hl
    split at h
    ·rename_i k r hs
     exact yS F (jV hs).2.2.2.1 (hcr.sub hs) h
    ·cases h
   split at h
   ·rename_i cs hb;exact go cs (.inl hb) h
   ·rename_i cs hb;exact go cs (.inr hb) h
   ·cases h
  ·
   rename_i b off n j
   obtain⟨c,hc,h0,h1,rfl⟩:=(hv:VP C (.ptrI b off n j) v)
   split at h
   ·rename_i cs hb
    split at h
    ·rename_i k tg m xs hs
     split at h
     ·rename_i hm hag
      obtain rfl:=j4.1 hm
      have hbl:BR C b (.var cs):=by have:=hI.bl b;rwa [hb]at this
      obtain⟨c',hl,hcr⟩:=AO hbl
      obtain rfl:=tB hc hl
      have h3:=((hcr.sub hs).cons).1
      have hj:j.toNat<n:=by omega
      obtain⟨u,en,hu,he,hsc⟩:=h3 j.toNat hj
      rw[show((j.toNat:Nat):Int)=j by omega]at he
      rw[he]at h
      obtain⟨g1,g2,g3,g4⟩:=Ds h
      refine⟨g1,g2,g3,u,?_,?_⟩
      ·have:=F.run_isAgg C.w
       rw[hag]at this
       simp at hu
       simp[Instr.loadAt,Instr.sureAddr,Sem.run_bind,loadVar,this,hu]
      ·rcases g4 with ⟨ga,_⟩|⟨_,gv,_⟩
       ·cases ga
       ·rw[<-(List.cons.inj gv).1];exact TR.of_VR (R0.vr hsc)
     ·cases h
    ·cases h
   ·cases h
  ·
   rename_i b tg' j off
   obtain⟨c,hc,_,h0,rfl,hlt⟩:=(hv:VP C (.ptrE b tg' j off) v)
   split at h
   ·rename_i tg xs f hb
    obtain⟨rfl,hlt2⟩:=hlt tg xs f (by rw[hI.eqb];exact hb)
    split at h
    ·rename_i k r hs
     have hbl:BR C b (.row tg xs f):=by have:=hI.bl b;rwa [hb]at this
     have hcr:=v8 hbl hc (Bo (d:=aJ tg) h0 hlt2)
     have:=hcr.sub hs
     refine yS F (jV hs).2.2.2.1 (this.congr fun o _=>by simp[iz]) h
    ·cases h
   ·cases h
  ·
   rename_i tg xs j off
   obtain⟨c,o',h0,hlt,hr,rfl⟩:=(hv:VP C (.ptrL tg xs j off) v)
   split at h
   ·rename_i k r hs
    have hcr:=hr.elem (Bo (d:=aJ tg) h0 hlt)
    have:=hcr.sub hs
    refine yS F (jV hs).2.2.2.1 (this.congr fun o _=>by simp[iz]) h
   ·cases h
  ·cases h
end
end Go.Den
namespace Go.Den
section
variable {P:Program}{T:Tr TI}{B:Bs}{s:St}{C:Cx}
theorem bP {v:AV}{asks:List Bool}{e:Eff}(h:val v= .ret asks e):asks=[]/\e=⟨v,[],[]⟩:=by
 obtain⟨rfl,rfl⟩:=OpRes.ret.inj h;exact⟨rfl,rfl⟩
theorem pE:∀(fs:List (Nat×TypeId)) (gs:List Field) (f o:Nat) (t:TypeId),eJ.fieldsOK fs gs=true->nth fs f=some (o,t)->∃g,gs[f]? =some g/\g.offset=o/\g.type=t
 |[],_,_,_,_,_,h=>by simp[nth]at h
 |(o,t)::r,[],_,_,_,h,_=>by simp[eJ.fieldsOK]at h
 |(o,t)::r,g::gs,f,o',t',h,hn=>by
  simp only[eJ.fieldsOK,ar,j4]at h
  obtain⟨h1,h2,h3⟩:=h
  cases f with
  |zero=>simp only[nth,Option.some.injEq,Prod.mk.injEq]at hn;exact⟨g,rfl,by rw[<-h1];exact hn.1,by rw[<-h2];exact hn.2⟩
  |succ f=>exact pE r gs f o' t' h3 hn
theorem uZ {d:TypeDesc}{fs:List (Nat×TypeId)}(h:eJ d (.struct fs)=true):∃gs,d= .struct gs/\eJ.fieldsOK fs gs.toList=true:=by
 cases d<;>simp[eJ]at h
 exact⟨_,rfl,h⟩
theorem dx {d:TypeDesc}{e:TypeId}(h:eJ d (.slice e)=true):d= .slice e:=by
 cases d<;>simp[eJ]at h
 rw[h]
theorem qL {d:TypeDesc}{n:Nat}{e:TypeId}(h:eJ d (.array n e)=true):d= .array n e:=by
 cases d<;>simp[eJ]at h
 rw[h.1,h.2]
theorem ml {d:TypeDesc}(h:eJ d .str=true):d= .string:=by
 cases d<;>simp[eJ]at h|-
theorem xV {d:TypeDesc}{k:IntKind}(h:eJ d (.int k)=true):d= .int k:=by
 cases d<;>simp[eJ]at h
 rw[gS.1 h]
theorem Ic {d:TypeDesc}{k e:TypeId}(h:eJ d (.map k e)=true):d= .map k e:=by
 cases d<;>simp[eJ]at h
 rw[h.1,h.2]
theorem Bk (hT:TOK P T){t:TypeId}{av:AV}{v:Value}(hv:TR C av v){f:Nat}{asks:List Bool}{e:Eff}(h:FP T t av f= .ret asks e):
  asks=[]/\∃a,e=⟨a,[],[]⟩/\∃x,(Instr.fieldAt t v f).run P C.w= .ok x C.w/\TR C a x:=by
 unfold FP at h
 split at h
 ·rename_i ti ht
  obtain⟨i,d,F⟩:=hT.fact ht
  split at h
  ·rename_i fs hd
   have hdd:=F.desc
   rw[hd]at hdd
   obtain⟨gs,rfl,hgs⟩:=uZ hdd
   split at h
   ·rename_i o ft hn
    obtain⟨g,hg,rfl,rfl⟩:=pE fs gs.toList f o ft hgs hn
    split at h
    ·rename_i tf htf
     obtain⟨i',d',F'⟩:=hT.fact htf
     split at h
     ·cases h
     ·rename_i hz
      have hz:tf.size≠0:=Fj.1 hz
      have hg':gs[f]? =some g:=by simpa using hg
      have run:∀c o,(Instr.fieldAt t (.pointer (some ⟨c,o,none⟩)) f).run P C.w= .ok (.pointer (some ⟨c,o+g.offset,none⟩)) C.w:=by
       intro c o
       simp[Instr.fieldAt,F.run_und,hg',Instr.sureAddr,fieldPlace,F'.run_size,hz,Addr.add_mid]
      split at h
      ·obtain⟨rfl,rfl⟩:=bP h
       obtain⟨c,hc,rfl⟩:=(hv:VP C (.ptr _ _) v)
       exact⟨rfl,_,rfl,_,run c _,⟨c,hc,rfl⟩⟩
      ·obtain⟨rfl,rfl⟩:=bP h
       obtain⟨c,hc,hu,h0,rfl,hb⟩:=(hv:VP C (.ptrE _ _ _ _) v)
       exact⟨rfl,_,rfl,_,run c _,⟨c,hc,hu,h0,by rw[iz],hb⟩⟩
      ·obtain⟨rfl,rfl⟩:=bP h
       obtain⟨c,o',h0,h1,hr,rfl⟩:=(hv:VP C (.ptrL _ _ _ _) v)
       exact⟨rfl,_,rfl,_,run c _,⟨c,o',h0,h1,hr,by rw[iz]⟩⟩
      ·cases h
    ·cases h
   ·cases h
  ·cases h
 ·cases h
theorem pI {n len:Int}:inR n len=true↔0<=n/\n<len:=by simp[inR]
theorem pH {n len:Int}:inC n len=true↔0<=n/\n<=len:=by simp[inC]
theorem gW {t e:TypeId}{te:TI}{i:TypeInfo}{d:TypeDesc}(hu:P.underlying t=some (.slice e))(F:TyF P e te i d)(c o len cap:Nat)(k:IntKind)(n:Int)(w:World)(h0:0<=n)(h1:n<len):
  (Instr.indexAt t (.slice (some ⟨c,o,none⟩) len cap) (.int k n)).run P w= .ok (.pointer (some ⟨c,o+n.toNat*te.size,none⟩)) w:=by
 simp[Instr.indexAt,asIntOf,run_underlying hu,F.run_size,h0,h1,Addr.add_mid]
theorem tK {t e:TypeId}{m:Nat}{te:TI}{i:TypeInfo}{d:TypeDesc}(hu:P.underlying t=some (.array m e))(F:TyF P e te i d)(c o:Nat)(k:IntKind)(n:Int)(w:World)(h0:0<=n)(h1:n<m):
  (Instr.indexAt t (.pointer (some ⟨c,o,none⟩)) (.int k n)).run P w= .ok (.pointer (some ⟨c,o+n.toNat*te.size,none⟩)) w:=by
 simp[Instr.indexAt,asIntOf,run_underlying hu,F.run_size,h0,h1,Addr.add_mid,Instr.sureAddr]
theorem Bu (hT:TOK P T)(hI:Inv B s C){t:TypeId}{av ai:AV}{v vi:Value}(hv:TR C av v)(hi:TR C ai vi){asks:List Bool}{e:Eff}(h:vk T s t av ai= .ret asks e)(ha:∀b∈asks,b=true):
  ∃a,e=⟨a,[],[]⟩/\∃x,(Instr.indexAt t v vi).run P C.w= .ok x C.w/\TR C a x:=by
 unfold vk at h
 split at h
 ·rename_i ti k n ht
  obtain⟨i,d,F⟩:=hT.fact ht
  obtain rfl:vi= .int k n:=hi
  have hdd:=F.desc
  split at h
  ·rename_i len e' hd
   rw[hd]at hdd
   obtain rfl:=qL hdd
   split at h
   ·rename_i b off te hte
    obtain⟨i',d',F'⟩:=hT.fact hte
    split at h
    ·rename_i hs
     obtain⟨rfl,rfl⟩:=OpRes.ret.inj h
     obtain⟨h0,h1⟩:=pI.1 (ha _ (cx.2 rfl))
     obtain⟨c,hc,rfl⟩:=(hv:VP C (.ptr _ _) v)
     have hs:=j4.1 hs
     refine⟨_,rfl,_,tK F.und F' c off k n C.w h0 (by simpa using h1),⟨c,hc,h0,by simpa using h1,?_⟩⟩
     rw[hs,eB]
    ·cases h
   ·cases h
  ·rename_i e' hd
   rw[hd]at hdd
   obtain rfl:=dx hdd
   split at h
   ·rename_i te hte
    obtain⟨i',d',F'⟩:=hT.fact hte
    split at h
    ·rename_i tg xs
     split at h
     ·rename_i htg
      obtain⟨rfl,rfl⟩:=OpRes.ret.inj h
      obtain⟨h0,h1⟩:=pI.1 (ha _ (cx.2 rfl))
      simp only[da]at h1
      obtain⟨a,cap,rfl,hc,hr⟩:=(hv:nN _ _ _ tg xs v)
      rcases hr with rfl|⟨c,o,rfl,hr⟩
      ·simp at h1;omega
      ·have hsz:=(F'.tag tg (oJ.1 htg)).1
       exact⟨_,rfl,_,gW F.und F' c o _ cap k n C.w h0 h1,⟨c,o,h0,h1,hr,by rw[hsz];rfl⟩⟩
     ·cases h
    ·rename_i b
     split at h
     ·rename_i tg xs f hb
      split at h
      ·rename_i htg
       obtain⟨rfl,rfl⟩:=OpRes.ret.inj h
       obtain⟨h0,h1⟩:=pI.1 (ha _ (cx.2 rfl))
       simp only[da]at h1
       obtain⟨hu,_,hv⟩:=(hv:VP C (.vec b) v)
       rw[hI.eqb,hb]at hv
       dsimp only at hv
       split at hv
       ·rename_i c hc
        obtain⟨cap,T',n',rfl,hcap,hsh,hn'⟩:=hv
        have hsz:=(F'.tag tg (oJ.1 htg)).1
        refine⟨_,rfl,_,gW F.und F' c 0 _ cap k n C.w h0 h1,⟨c,hc,hu,h0,by rw[hsz];simp,fun t' ys f' hy=>?_⟩⟩
        rw[hI.eqb,hb]at hy
        injection hy with e1 e2 e3
        subst e1
        rw[<-eq_of_heq e2]
        exact⟨rfl,h1⟩
       ·obtain⟨_,rfl⟩:=hv
        simp at h1;omega
      ·cases h
     ·rename_i cs hb
      split at h
      ·rename_i hs
       obtain⟨rfl,rfl⟩:=OpRes.ret.inj h
       obtain⟨h0,h1⟩:=pI.1 (ha _ (cx.2 rfl))
       rw[lenN_eq]at h1
       obtain⟨hu,_,hv⟩:=(hv:VP C (.vec b) v)
       rw[hI.eqb,hb]at hv
       obtain⟨c,hc,rfl⟩:=hv
       have hs:=j4.1 hs
       refine⟨_,rfl,_,gW F.und F' c 0 _ _ k n C.w h0 (by simpa using h1),⟨c,hc,?_⟩⟩
       rw[hs,eB,eP]
      ·cases h
     ·cases h
    ·rename_i b m
     split at h
     ·rename_i tg xs f hb
      split at h
      ·rename_i htg
       obtain⟨rfl,rfl⟩:=OpRes.ret.inj h
       obtain⟨h0,h1⟩:=pI.1 (ha _ (cx.2 rfl))
       obtain⟨hu,_,hm,hv⟩:=(hv:VP C (.pre b m) v)
       rw[hI.eqb,hb]at hv
       obtain⟨hmx,hv⟩:=hv
       split at hv
       ·rename_i c hc
        obtain⟨cap,rfl,hcap⟩:=hv
        have hsz:=(F'.tag tg (oJ.1 htg)).1
        refine⟨_,rfl,_,gW F.und F' c 0 _ cap k n C.w h0 (by omega),⟨c,hc,hu,h0,by rw[hsz];simp,fun t' ys f' hy=>?_⟩⟩
        rw[hI.eqb,hb]at hy
        injection hy with e1 e2 e3
        subst e1
        rw[<-eq_of_heq e2]
        exact⟨rfl,by omega⟩
       ·obtain⟨_,rfl⟩:=hv
        omega
      ·cases h
     ·rename_i cs hb
      split at h
      ·rename_i hs
       obtain⟨rfl,rfl⟩:=OpRes.ret.inj h
       obtain⟨h0,h1⟩:=pI.1 (ha _ (cx.2 rfl))
       obtain⟨hu,_,hm,hv⟩:=(hv:VP C (.pre b m) v)
       rw[hI.eqb,hb]at hv
       obtain⟨hmx,c,cap,hc,rfl⟩:=hv
       have hs:=j4.1 hs
       refine⟨_,rfl,_,gW F.und F' c 0 _ cap k n C.w h0 (by omega),⟨c,hc,?_⟩⟩
       rw[hs,eB,eP]
      ·cases h
     ·cases h
    ·cases h
   ·cases h
  ·cases h
 ·cases h
end
end Go.Den
namespace Go.Den
section
variable {P:Program}{T:Tr TI}{B:Bs}{s:St}{C:Cx}
theorem F6 (hT:TOK P T){t:TypeId}{av ai:AV}{v vi:Value}(hv:TR C av v)(hi:TR C ai vi){asks:List Bool}{e:Eff}(h:idxC T t av ai= .ret asks e)(ha:∀b∈asks,b=true):
  ∃a,e=⟨a,[],[]⟩/\∃x,(Instr.index t v vi).run P C.w= .ok x C.w/\TR C a x:=by
 unfold idxC at h
 split at h
 ·rename_i ti l k n ht
  obtain⟨i,d,F⟩:=hT.fact ht
  obtain rfl:vi= .int k n:=hi
  obtain rfl:v= .string ⟨l.toArray⟩:=hv
  have hdd:=F.desc
  split at h
  ·rename_i hd
   rw[hd]at hdd
   obtain rfl:=ml hdd
   obtain⟨rfl,rfl⟩:=OpRes.ret.inj h
   obtain⟨h0,h1⟩:=pI.1 (ha _ (cx.2 rfl))
   simp only[da]at h1
   have hn:n.toNat<l.length:=by omega
   refine⟨_,rfl,.int .u8 (l[n.toNat]).toNat,?_,?_⟩
   ·rw[run_index_string _ _ _ _ _ F.und,dif_pos ⟨h0,by simpa[ByteArray.size]using h1⟩]
    rfl
   ·show _=_
    simp[gi,List.getD,co hn]
  ·cases h
 ·rename_i ti tg m xs k n ht
  obtain⟨i,d,F⟩:=hT.fact ht
  obtain rfl:vi= .int k n:=hi
  obtain⟨l,rfl,hsz,hcr⟩:∃l:Array Value,v= .agg l/\l.size=bw [.arr tg m xs]/\CR C [.arr tg m xs] (fun o=>l[o]?):=hv
  have hdd:=F.desc
  split at h
  ·rename_i len e hd
   rw[hd]at hdd
   obtain rfl:=qL hdd
   split at h
   ·rename_i te hte
    obtain⟨ie,de,Fe⟩:=hT.fact hte
    split at h
    ·rename_i a hc hen
     simp only[ar,ef]at hc
     obtain⟨h1,h2,h3⟩:=hc
     obtain rfl:=j4.1 h2
     obtain⟨rfl,rfl⟩:=OpRes.ret.inj h
     obtain⟨h0,hlt⟩:=pI.1 (ha _ (cx.2 rfl))
     have hlt':n<(m:Int):=hlt
     obtain⟨u,e',hu,he,hsc⟩:=(hcr 0 _ rfl:∀j,j<m->∃v e,l[lL [.arr tg m xs] 0+j]? =some v/\enc tg (bk xs (j:Nat) (aJ tg))=[e]/\AA e=some v) n.toNat (by omega)
     rw[show((n.toNat:Nat):Int)=n by omega,hen]at he
     obtain rfl:=(List.cons.inj he).1
     refine⟨_,rfl,u,?_,TR.of_VR (R0.vr hsc)⟩
     have hu':l[n.toNat]? =some u:=by simpa[lL]using hu
     have hco:P.cellsOf e=1:=by unfold Program.cellsOf;rw[Fe.info];simp[Fe.size,j4.1 h1]
     have hag:=Fe.run_isAgg C.w
     rw[h3]at hag
     simp[Instr.index,asIntOf,run_underlying F.und,h0,hlt',run_sizeOf C.w Fe.info,hco,part,hag,hu']
    ·cases h
   ·cases h
  ·cases h
 ·cases h
theorem Co (l:List UInt8)(lo hi:Nat):(⟨l.toArray⟩:ByteArray).extract lo hi=⟨((l.take hi).drop lo).toArray⟩:=by
 apply ByteArray.ext
 simp[ByteArray.data_extract,List.drop_take]
theorem nK (l:List UInt8):(⟨l.toArray⟩:ByteArray).size=l.length:=by simp[ByteArray.size]
theorem xw {isS:Bool}{len cap:Nat}{lo hi:Option AV}{vlo vhi:Option Value}(w:World)(hlc:len<=cap)
  (hlo:match lo,vlo with|none,none=>True|some a,some v=>TR C a v|_,_=>False) (hhi:match hi,vhi with|none,none=>True|some a,some v=>TR C a v|_,_=>False)
  {β:Type} {xs:List β} (hx:xs.length=len) {k:List β->AV} {asks:List Bool} {e:Eff} (h:cutL xs lo hi k= .ret asks e) (ha:∀b∈asks,b=true):
  ∃l m:Nat,l<=m/\m<=len/\(Instr.sliceBounds isS len cap vlo vhi none).run P w= .ok (l,m,cap) w/\e=⟨k ((xs.take m).drop l),[],[]⟩:=by
 have sb:∀(k:IntKind) (n:Int) (y:Nat) (c:BoundsCode),0<=n->n<=y->(Instr.sliceBound (.int k n) y c).run P w= .ok n.toNat w:=by
  intro k n y c h0 h1
  simp[Instr.sliceBound,asIntOf,h0,h1]
 unfold cutL at h
 split at h
 ·obtain⟨rfl,rfl⟩:=bP h
  cases vlo with
  |some=>exact hlo.elim
  |none=>cases vhi with
   |some=>exact hhi.elim
   |none=>exact⟨0,len,iG _,bV _,by simp[Instr.sliceBounds],by rw[<-hx];simp⟩
 ·rename_i kh n
  obtain⟨rfl,rfl⟩:=OpRes.ret.inj h
  obtain⟨h0,h1⟩:=pH.1 (ha _ (cx.2 rfl))
  simp only[da]at h1
  cases vlo with
  |some=>exact hlo.elim
  |none=>cases vhi with
   |none=>exact hhi.elim
   |some v=>
    obtain rfl:v= .int kh n:=hhi
    exact⟨0,n.toNat,iG _,by omega,by simp[Instr.sliceBounds,sb kh n cap _ h0 (by omega)],by simp[k9]⟩
 ·rename_i kl n
  obtain⟨rfl,rfl⟩:=OpRes.ret.inj h
  obtain⟨h0,h1⟩:=pH.1 (ha _ (cx.2 rfl))
  simp only[da]at h1
  cases vhi with
  |some=>exact hhi.elim
  |none=>cases vlo with
   |none=>exact hlo.elim
   |some v=>
    obtain rfl:v= .int kl n:=hlo
    exact⟨n.toNat,len,by omega,bV _,by simp[Instr.sliceBounds,sb kl n len _ h0 (by omega)],by rw[<-hx];simp[nq]⟩
 ·rename_i kl nl kh nh
  obtain⟨rfl,rfl⟩:=OpRes.ret.inj h
  obtain⟨h0,h1⟩:=pH.1 (ha (inC nh (da xs)) (by simp))
  obtain⟨h2,h3⟩:=pH.1 (ha (inC nl nh) (by simp))
  simp only[da]at h1
  cases vlo with
  |none=>exact hlo.elim
  |some v=>cases vhi with
   |none=>exact hhi.elim
   |some u=>
    obtain rfl:v= .int kl nl:=hlo
    obtain rfl:u= .int kh nh:=hhi
    exact⟨nl.toNat,nh.toNat,by omega,by omega,by simp[Instr.sliceBounds,sb kh nh cap _ h0 (by omega),sb kl nl nh.toNat _ h2 (by omega)],by simp[nq,k9]⟩
 ·cases h
theorem Ci (hT:TOK P T)(hI:Inv B s C){t:TypeId}{av:AV}{v:Value}(hv:TR C av v){lo hi mx:Option AV}{vlo vhi vmx:Option Value}
  (hlo:match lo,vlo with|none,none=>True|some a,some v=>TR C a v|_,_=>False) (hhi:match hi,vhi with|none,none=>True|some a,some v=>TR C a v|_,_=>False) (hmx:mx=none->vmx=none)
  {asks:List Bool} {e:Eff} (h:xx T s t av lo hi mx= .ret asks e) (ha:∀b∈asks,b=true):
  ∃a,e=⟨a,[],[]⟩/\∃x,(Instr.sliceAt t v vlo vhi vmx).run P C.w= .ok x C.w/\TR C a x:=by
 unfold xx at h
 split at h
 ·rename_i ti l ht
  obtain⟨i,d,F⟩:=hT.fact ht
  obtain rfl:v= .string ⟨l.toArray⟩:=hv
  have hdd:=F.desc
  obtain rfl:=hmx rfl
  split at h
  ·rename_i hd
   rw[hd]at hdd
   obtain rfl:=ml hdd
   obtain⟨l',m,h1,h2,hr,rfl⟩:=xw (P:=P) (isS:=false) (len:=l.length) (cap:=l.length) C.w (bV _) hlo hhi rfl h ha
   refine⟨_,rfl,.string ((⟨l.toArray⟩:ByteArray).extract l' m),?_,?_⟩
   ·simp[Instr.sliceAt,F.run_und,Instr.slice,nK,hr]
   ·rw[Co];rfl
  ·cases h
 ·rename_i ti tg xs ht
  obtain⟨i,d,F⟩:=hT.fact ht
  have hdd:=F.desc
  obtain rfl:=hmx rfl
  split at h
  ·rename_i e' hd
   rw[hd]at hdd
   obtain rfl:=dx hdd
   split at h
   ·rename_i te hte
    obtain⟨i',d',F'⟩:=hT.fact hte
    split at h
    ·rename_i htg
     have hsz:=(F'.tag tg (oJ.1 htg)).1
     obtain⟨a,cap,rfl,hc,hr⟩:=(hv:nN _ _ _ tg xs v)
     obtain⟨l,m,h1,h2,hb,rfl⟩:=xw (P:=P) (isS:=true) (len:=xs.length) (cap:=cap) C.w hc hlo hhi rfl h ha
     refine⟨_,rfl,.slice (if cap=l then a else a.map (·.add (l*te.size))) (m-l) (cap-l),by simp[Instr.sliceAt,F.run_und,Instr.slice,hb,F'.run_size],?_⟩
     have hlen:((xs.take m).drop l).length=m-l:=by simp;omega
     refine⟨_,_,by rw[hlen],by rw[hlen];omega,?_⟩
     by_cases hlm:l=m
     ·left;exact ly (by rw[hlen];omega)
     ·right
      rw[ae (by omega)]
      rcases hr with rfl|⟨c,o,rfl,hok,hr⟩
      ·simp at h2;omega
      ·refine⟨c,o+l*te.size,by simp[Addr.add_mid],hok,fun k x hx j a ha=>?_⟩
       rw[mW,mw]at hx
       split at hx
       ·obtain⟨u,hu,hrr⟩:=hr (l+k) x hx j a ha
        refine⟨u,?_,hrr⟩
        rw[show o+l*te.size+k*esz tg+j=o+(l+k)*esz tg+j by rw[hsz,ci];omega]
        exact hu
       ·cases hx
    ·cases h
   ·cases h
  ·cases h
 ·rename_i ti b ht
  obtain⟨i,d,F⟩:=hT.fact ht
  have hdd:=F.desc
  obtain rfl:=hmx rfl
  split at h
  ·rename_i e' kl l hd
   rw[hd]at hdd
   obtain rfl:=dx hdd
   cases vhi with
   |some=>exact hhi.elim
   |none=>
    cases vlo with
    |none=>exact hlo.elim
    |some u=>
     obtain rfl:u= .int kl l:=hlo
     split at h
     ·rename_i te hte
      obtain⟨i',d',F'⟩:=hT.fact hte
      obtain⟨hu,hsl,hv⟩:=(hv:VP C (.vec b) v)
      rw[hI.eqb]at hv
      split at h
      ·rename_i tg xs f hb
       split at h
       ·rename_i htg
        have hsz:=(F'.tag tg (oJ.1 htg)).1
        obtain⟨rfl,rfl⟩:=OpRes.ret.inj h
        obtain⟨h0,h1⟩:=pH.1 (ha _ (cx.2 rfl))
        simp only[da]at h1
        rw[hb]at hv
        dsimp only at hv
        have hbd:∀cap:Nat,xs.length<=cap->(Instr.sliceBounds true xs.length cap (some (Value.int kl l)) none none).run P C.w= .ok (l.toNat,xs.length,cap) C.w:=fun cap hc=>by
         simp[Instr.sliceBounds,Instr.sliceBound,asIntOf,h0,show l<=(xs.length:Int)by omega]
        split at hv
        ·rename_i c hc
         obtain⟨cap,T',n',rfl,hcap,_,_⟩:=hv
         refine⟨_,rfl,.slice (if cap=l.toNat then some ⟨c,0,none⟩else some ((⟨c,0,none⟩:Addr).add (l.toNat*te.size))) (xs.length-l.toNat) (cap-l.toNat),by simp[Instr.sliceAt,F.run_und,Instr.slice,hbd cap hcap,F'.run_size],hu,⟨_,_,_,rfl⟩,h0,?_⟩
         rw[hI.eqb,hb]
         refine⟨h1,_,_,rfl,fun hlt=>⟨c,hc,?_⟩⟩
         rw[ae (by omega)]
         simp[Addr.add_mid,hsz]
        ·obtain⟨rfl,rfl⟩:=hv
         have hn0:l=0:=by simp at h1;omega
         subst hn0
         refine⟨_,rfl,.slice none 0 0,by simp[Instr.sliceAt,F.run_und,Instr.slice,Instr.sliceBounds,Instr.sliceBound,asIntOf,F'.run_size],hu,⟨_,_,_,rfl⟩,h0,?_⟩
         rw[hI.eqb,hb]
         exact⟨h1,none,0,rfl,fun hlt=>ah hlt (by simp)⟩
       ·cases h
      ·cases h
     ·cases h
  ·rename_i e' kh n hd
   rw[hd]at hdd
   obtain rfl:=dx hdd
   cases vlo with
   |some=>exact hlo.elim
   |none=>
    cases vhi with
    |none=>exact hhi.elim
    |some u=>
     obtain rfl:u= .int kh n:=hhi
     split at h
     ·rename_i te hte
      obtain⟨i',d',F'⟩:=hT.fact hte
      obtain⟨hu,hsl,hv⟩:=(hv:VP C (.vec b) v)
      rw[hI.eqb]at hv
      split at h
      ·rename_i tg xs f hb
       split at h
       ·obtain⟨rfl,rfl⟩:=OpRes.ret.inj h
        obtain⟨h0,h1⟩:=pH.1 (ha _ (cx.2 rfl))
        simp only[da]at h1
        rw[hb]at hv
        dsimp only at hv
        have hbd:∀cap:Nat,xs.length<=cap->(Instr.sliceBounds true xs.length cap none (some (Value.int kh n)) none).run P C.w= .ok (0,n.toNat,cap) C.w:=fun cap hc=>by
         simp[Instr.sliceBounds,Instr.sliceBound,asIntOf,h0,show n<=(cap:Int)by omega]
        split at hv
        ·rename_i c hc
         obtain⟨cap,T',n',rfl,hcap,_,_⟩:=hv
         refine⟨_,rfl,.slice (if cap=0 then some ⟨c,0,none⟩else some ((⟨c,0,none⟩:Addr).add (0*te.size))) (n.toNat-0) (cap-0),by simp[Instr.sliceAt,F.run_und,Instr.slice,hbd cap hcap,F'.run_size],hu,⟨_,_,_,rfl⟩,h0,?_⟩
         rw[hI.eqb,hb]
         refine⟨h1,?_⟩
         rw[hc]
         refine⟨cap,?_,by omega⟩
         by_cases hz:cap=0
         ·simp[hz]
         ·simp[hz,Addr.add_mid]
        ·obtain⟨rfl,rfl⟩:=hv
         have hn0:n=0:=by simp at h1;omega
         subst hn0
         rename_i hc
         refine⟨_,rfl,.slice none 0 0,by simp[Instr.sliceAt,F.run_und,Instr.slice,Instr.sliceBounds,Instr.sliceBound,asIntOf,F'.run_size],hu,⟨_,_,_,rfl⟩,h0,?_⟩
         rw[hI.eqb,hb]
         refine⟨h1,?_⟩
         rw[hc]
         exact⟨rfl,rfl⟩
       ·cases h
      ·rename_i cs hb
       obtain⟨rfl,rfl⟩:=OpRes.ret.inj h
       obtain⟨h0,h1⟩:=pH.1 (ha _ (cx.2 rfl))
       rw[lenN_eq]at h1
       rw[hb]at hv
       obtain⟨c,hc,rfl⟩:=hv
       refine⟨_,rfl,.slice (if cs.length=0 then some ⟨c,0,none⟩else some ((⟨c,0,none⟩:Addr).add (0*te.size))) (n.toNat-0) (cs.length-0),by simp[Instr.sliceAt,F.run_und,Instr.slice,Instr.sliceBounds,Instr.sliceBound,asIntOf,h0,show n<=(cs.length:Int)from h1,F'.run_size],hu,⟨_,_,_,rfl⟩,h0,?_⟩
       rw[hI.eqb,hb]
       refine⟨h1,c,cs.length,hc,?_⟩
       by_cases hz:cs.length=0
       ·simp[hz]
       ·simp[hz,Addr.add_mid]
      ·cases h
     ·cases h
  ·cases h
 ·cases h
end
end Go.Den
namespace Go.Den
section
variable {P:Program}{T:Tr TI}{B:Bs}{s:St}{C:Cx}
theorem jY (op:BinOp)(t:TypeId)(x y:Operand)(a b:Value)(w:World)(h:(∀l,a≠ .agg l)/\a≠ .nilIface\/(∀l,b≠ .agg l)/\b≠ .nilIface\/(a= .nilIface/\∃t v,b= .iface t v)\/(op≠ .eql/\op≠ .neq)\/(a= .nilIface/\b= .nilIface/\∃v,y= .const v)):
  (eqGuard op t x y a b).run P w= .ok () w:=by
 unfold eqGuard
 rcases h with ⟨h1,h2⟩|⟨h1,h2⟩|⟨rfl,_,_,rfl⟩|⟨h1,h2⟩|⟨rfl,rfl,v,rfl⟩
 ·cases op<;>simp<;>(cases a<;>simp_all)
 ·cases op<;>simp<;>(cases b<;>first|(simp_all;done)|(cases a<;>simp_all))
 ·cases op<;>simp
 ·cases op<;>simp_all
 ·cases op<;>simp
theorem yQ (op:BinOp)(t:TypeId)(k:IntKind)(a b:Int)(h1:op≠ .shl)(h2:op≠ .shr):
  binOp op t (.int k a) (.int k b)=(match op with
   | .add| .sub| .mul=>Op.intArith op k a b
   | .quo| .rem=>Op.intDiv op k a b
   | .and| .or| .xor| .andNot=>Op.intBits op k a b
   |_=>Op.intCmp op a b):=by
 cases op<;>first|exact ah rfl h1|exact ah rfl h2|simp[binOp]
theorem v9 {t:TypeId}(a b:Bool)(w:World)(h:P.underlying t=some .bool):(Op.equal t (.bool a) (.bool b)).run P w= .ok (eqB a b) w:=run_equalIn_bool' w 9999 t a b h
theorem Cb {t:TypeId}{ms:Array (String×TypeId)}(d:Nat)(w:World)(h:P.underlying t=some (.interface ms)):(Op.equalIn (d+1) t .nilIface .nilIface).run P w= .ok true w:=by
 simp[Op.equalIn,run_underlying h]
theorem Ca {t t':TypeId}{x:Value}{ms:Array (String×TypeId)}(d:Nat)(w:World)(h:P.underlying t=some (.interface ms)):(Op.equalIn (d+1) t (.iface t' x) .nilIface).run P w= .ok false w:=by
 simp[Op.equalIn,run_underlying h]
theorem Az {t:TypeId}{ms:Array (String×TypeId)}(w:World)(h:P.underlying t=some (.interface ms)):(Op.equal t .nilIface .nilIface).run P w= .ok true w:=Cb 9999 w h
theorem Ay {t t':TypeId}{x:Value}{ms:Array (String×TypeId)}(w:World)(h:P.underlying t=some (.interface ms)):(Op.equal t (.iface t' x) .nilIface).run P w= .ok false w:=Ca 9999 w h
theorem yR {t:TypeId}{x y:Value}{w:World}{r:Bool}(hb:binOp .eql t x y=(do pure (.bool (<-Op.equal t x y))))(h:(Op.equal t x y).run P w= .ok r w):(binOp .eql t x y).run P w= .ok (.bool r) w:=by
 rw[hb];simp[h]
theorem yT {t:TypeId}{x y:Value}{w:World}{r:Bool}(hb:binOp .neq t x y=(do pure (.bool (!(<-Op.equal t x y)))))(h:(Op.equal t x y).run P w= .ok r w):(binOp .neq t x y).run P w= .ok (.bool (!r)) w:=by
 rw[hb];simp[h]
theorem A1 (l m:List UInt8):(l==m)=decide (l=m):=by rw[bv];simp
def DH (P:Program)(T:Tr TI):Prop:=∀t ti,T.get t=some ti->ti.eqk=true->∀(C:Cx) (cs ds:List AV) (xs ys:Array Value) r (x y:Operand) (op:BinOp),
 ph ti.zero cs=true->ph ti.zero ds=true->eqC cs ds=some r->TR C (.agg cs) (.agg xs)->TR C (.agg ds) (.agg ys)->
 (eqGuard op t x y (.agg xs) (.agg ys)).run P C.w= .ok () C.w/\(Op.equal t (.agg xs) (.agg ys)).run P C.w= .ok r C.w
theorem vo (hT:TOK P T){t:TypeId}(h:yt T t=true):P.underlying t=some .bool:=by
 unfold yt at h
 split at h
 ·rename_i ti ht
  obtain⟨i,d,F⟩:=hT.fact ht
  have hd:=F.desc
  split at h
  ·rename_i e;rw[e]at hd;cases d<;>simp[eJ]at hd;exact F.und
  ·cases h
 ·cases h
theorem vp (hT:TOK P T){t:TypeId}{c:Bool}(h:yu T t c=true):(∃ms,P.underlying t=some (.interface ms))/\c=true:=by
 unfold yu at h
 split at h
 ·rename_i ti ht
  obtain⟨i,d,F⟩:=hT.fact ht
  have hd:=F.desc
  split at h
  ·rename_i e;rw[e]at hd;cases d<;>simp[eJ]at hd;exact⟨⟨_,F.und⟩,h⟩
  ·cases h
 ·cases h
theorem tV (hT:TOK P T){t:TypeId}(h:uw T t=true):∃e,P.underlying t=some (.slice e):=by
 unfold uw at h
 split at h
 ·rename_i ti ht
  obtain⟨i,d,F⟩:=hT.fact ht
  have hd:=F.desc
  split at h
  ·rename_i e;rw[e]at hd;cases d<;>simp[eJ]at hd;exact⟨_,F.und⟩
  ·cases h
 ·cases h
theorem Fl (hT:TOK P T)(hQ:DH P T){op:BinOp}{t:TypeId}{ox oy:Operand}{x y:AV}{vx vy:Value}(hx:TR C x vx)(hy:TR C y vy){asks:List Bool}{e:Eff}
  (h:binC T t (yt T t) (yu T t (IB oy)) op x y= .ret asks e) (ha:∀b∈asks,b=true):
  ∃a,e=⟨a,[],[]⟩/\∃v,(do eqGuard op t ox oy vx vy;binOp op t vx vy:Sem Value).run P C.w= .ok v C.w/\TR C a v:=by
 have mk:∀v,(eqGuard op t ox oy vx vy).run P C.w= .ok () C.w->(binOp op t vx vy).run P C.w= .ok v C.w->(do eqGuard op t ox oy vx vy;binOp op t vx vy:Sem Value).run P C.w= .ok v C.w:=by
  intro v h1 h2
  simp[Sem.run_bind,h1,h2]
 unfold binC at h
 split at h
 ·
  rename_i j a k b
  obtain rfl:vx= .int j a:=hx
  obtain rfl:vy= .int k b:=hy
  obtain⟨rfl,rfl⟩:=OpRes.ret.inj h
  have h0:0<=b:=by simpa[leI]using ha _ (cx.2 rfl)
  refine⟨_,rfl,_,mk _ (jY _ _ _ _ _ _ _ (.inl ⟨by simp,by simp⟩)) ?_,rfl⟩
  have hn:¬b<0:=by omega
  simp[binOp,Op.shift,hn,eW]
 ·rename_i j a k b
  obtain rfl:vx= .int j a:=hx
  obtain rfl:vy= .int k b:=hy
  obtain⟨rfl,rfl⟩:=OpRes.ret.inj h
  have h0:0<=b:=by simpa[leI]using ha _ (cx.2 rfl)
  refine⟨_,rfl,_,mk _ (jY _ _ _ _ _ _ _ (.inl ⟨by simp,by simp⟩)) ?_,rfl⟩
  have hn:¬b<0:=by omega
  simp[binOp,Op.shift,hn,dC]
 ·rename_i j a k b hshl hshr
  obtain rfl:vx= .int j a:=hx
  obtain rfl:vy= .int k b:=hy
  have g:=jY (P:=P) op t ox oy (.int j a) (.int k b) C.w (.inl ⟨by simp,by simp⟩)
  split at h
  ·cases h
  ·rename_i hk
   obtain rfl:=gS.1 hk
   have hr:=yQ op t j a b (fun e=>hshl e) (fun e=>hshr e)
   cases op<;>simp only[reduceCtorEq]at hshl hshr hr h
   case add=>obtain⟨rfl,rfl⟩:=bP h;exact⟨_,rfl,.int j (aL j a b),mk _ g (by rw[hr];rfl),rfl⟩
   case sub=>obtain⟨rfl,rfl⟩:=bP h;exact⟨_,rfl,.int j (bo j a b),mk _ g (by rw[hr];rfl),rfl⟩
   case mul=>obtain⟨rfl,rfl⟩:=bP h;exact⟨_,rfl,.int j (cj j a b),mk _ g (by rw[hr];rfl),rfl⟩
   case quo=>
    obtain⟨rfl,rfl⟩:=OpRes.ret.inj h
    have h0:b≠0:=by simpa[bm,eqI]using ha _ (cx.2 rfl)
    exact⟨_,rfl,.int j (nn j a b),mk _ g (by rw[hr];simp[Op.intDiv,h0];rfl),rfl⟩
   case rem=>
    obtain⟨rfl,rfl⟩:=OpRes.ret.inj h
    have h0:b≠0:=by simpa[bm,eqI]using ha _ (cx.2 rfl)
    exact⟨_,rfl,.int j (gC a b),mk _ g (by rw[hr];simp[Op.intDiv,h0];rfl),rfl⟩
   case and=>obtain⟨rfl,rfl⟩:=bP h;exact⟨_,rfl,.int j (dP j a b),mk _ g (by rw[hr];rfl),rfl⟩
   case or=>obtain⟨rfl,rfl⟩:=bP h;exact⟨_,rfl,.int j (ior j a b),mk _ g (by rw[hr];rfl),rfl⟩
   case xor=>obtain⟨rfl,rfl⟩:=bP h;exact⟨_,rfl,.int j (vA j a b),mk _ g (by rw[hr];rfl),rfl⟩
   case andNot=>obtain⟨rfl,rfl⟩:=bP h;exact⟨_,rfl,.int j (jy j a b),mk _ g (by rw[hr];rfl),rfl⟩
   case eql=>obtain⟨rfl,rfl⟩:=bP h;exact⟨_,rfl,.bool (eqI a b),mk _ g (by rw[hr];rfl),rfl⟩
   case neq=>obtain⟨rfl,rfl⟩:=bP h;exact⟨_,rfl,.bool (bm (eqI a b)),mk _ g (by rw[hr];rfl),rfl⟩
   case lss=>obtain⟨rfl,rfl⟩:=bP h;exact⟨_,rfl,.bool (ltI a b),mk _ g (by rw[hr];rfl),rfl⟩
   case leq=>obtain⟨rfl,rfl⟩:=bP h;exact⟨_,rfl,.bool (leI a b),mk _ g (by rw[hr];rfl),rfl⟩
   case gtr=>obtain⟨rfl,rfl⟩:=bP h;exact⟨_,rfl,.bool (ltI b a),mk _ g (by rw[hr];rfl),rfl⟩
   case geq=>obtain⟨rfl,rfl⟩:=bP h;exact⟨_,rfl,.bool (leI b a),mk _ g (by rw[hr];rfl),rfl⟩
   all_goals cases h
 ·
  rename_i l m
  obtain rfl:vx= .string ⟨l.toArray⟩:=hx
  obtain rfl:vy= .string ⟨m.toArray⟩:=hy
  have g:=jY (P:=P) op t ox oy (.string ⟨l.toArray⟩) (.string ⟨m.toArray⟩) C.w (.inl ⟨by simp,by simp⟩)
  split at h
  ·obtain⟨rfl,rfl⟩:=OpRes.ret.inj h
   have h0:(l.length:Int)+m.length<=lim:=by simpa[dO]using ha _ (cx.2 rfl)
   have h1:¬((((⟨l.toArray⟩:ByteArray).size+(⟨m.toArray⟩:ByteArray).size:Nat):Int)>IntKind.i64.max):=by
    rw[nK,nK];unfold lim at h0;have:IntKind.i64.max=9223372036854775807:=rfl
    omega
   refine⟨_,rfl,.string (⟨l.toArray⟩++⟨m.toArray⟩),mk _ g ?_,?_⟩
   ·show(Op.stringOp .add ⟨l.toArray⟩ ⟨m.toArray⟩).run P C.w=_
    simp only[Op.stringOp]
    rw[ae h1]
    simp
   ·show _=_
    congr 1
  ·obtain⟨rfl,rfl⟩:=bP h
   exact⟨_,rfl,.bool (eqS l m),mk _ g (by show(Op.stringOp .eql _ _).run P C.w=_;simp[Op.stringOp,eqS,A1]),rfl⟩
  ·obtain⟨rfl,rfl⟩:=bP h
   exact⟨_,rfl,.bool (bm (eqS l m)),mk _ g (by show(Op.stringOp .neq _ _).run P C.w=_;simp[Op.stringOp,eqS,bm,A1]),rfl⟩
  ·obtain⟨rfl,rfl⟩:=bP h
   exact⟨_,rfl,.bool (lessS l m),mk _ g (by show(Op.stringOp .lss _ _).run P C.w=_;simp[Op.stringOp,lessS]),rfl⟩
  ·cases h
 ·rename_i a b
  obtain rfl:vx= .bool a:=hx
  obtain rfl:vy= .bool b:=hy
  split at h
  ·rename_i hb
   obtain⟨rfl,rfl⟩:=bP h
   have hu:=vo hT hb
   exact⟨_,rfl,.bool (eqB a b),mk _ (jY _ _ _ _ _ _ _ (.inl ⟨by simp,by simp⟩)) (yR rfl (v9 a b C.w hu)),rfl⟩
  ·cases h
 ·rename_i a b
  obtain rfl:vx= .bool a:=hx
  obtain rfl:vy= .bool b:=hy
  split at h
  ·rename_i hb
   obtain⟨rfl,rfl⟩:=bP h
   have hu:=vo hT hb
   exact⟨_,rfl,.bool (bm (eqB a b)),mk _ (jY _ _ _ _ _ _ _ (.inl ⟨by simp,by simp⟩)) (yT rfl (v9 a b C.w hu)),rfl⟩
  ·cases h
 ·rename_i a
  obtain rfl:vy= .nilIface:=hy
  split at h
  ·rename_i hb
   obtain⟨rfl,rfl⟩:=bP h
   obtain⟨⟨ms,hu⟩,hcst⟩:=vp hT hb
   obtain⟨v,rfl⟩:∃v,oy= .const v:=by cases oy<;>simp[IB]at hcst;exact⟨_,rfl⟩
   cases a with
   |true=>
    obtain rfl:vx= .nilIface:=hx
    exact⟨_,rfl,.bool true,mk _ (jY _ _ _ _ _ _ _ (.inr (.inr (.inr (.inr ⟨rfl,rfl,v,rfl⟩))))) (yR rfl (Az C.w hu)),rfl⟩
   |false=>
    obtain⟨t',x',rfl⟩:∃t x,vx= .iface t x:=hx
    exact⟨_,rfl,.bool false,mk _ (jY _ _ _ _ _ _ _ (.inl ⟨by simp,by simp⟩)) (yR rfl (Ay C.w hu)),rfl⟩
  ·cases h
 ·rename_i a
  obtain rfl:vy= .nilIface:=hy
  split at h
  ·rename_i hb
   obtain⟨rfl,rfl⟩:=bP h
   obtain⟨⟨ms,hu⟩,hcst⟩:=vp hT hb
   obtain⟨v,rfl⟩:∃v,oy= .const v:=by cases oy<;>simp[IB]at hcst;exact⟨_,rfl⟩
   cases a with
   |true=>
    obtain rfl:vx= .nilIface:=hx
    exact⟨_,rfl,.bool false,mk _ (jY _ _ _ _ _ _ _ (.inr (.inr (.inr (.inr ⟨rfl,rfl,v,rfl⟩))))) (yT rfl (Az C.w hu)),by simp[bm,TR,TR1,VR,VP]⟩
   |false=>
    obtain⟨t',x',rfl⟩:∃t x,vx= .iface t x:=hx
    exact⟨_,rfl,.bool true,mk _ (jY _ _ _ _ _ _ _ (.inl ⟨by simp,by simp⟩)) (yT rfl (Ay C.w hu)),by simp[bm,TR,TR1,VR,VP]⟩
  ·cases h
 ·split at h
  ·rename_i ti ht
   split at h
   ·rename_i r hk hr
    simp only[ar]at hk
    obtain⟨rfl,rfl⟩:=bP h
    obtain⟨xs,rfl,_⟩:=id hx
    obtain⟨ys,rfl,_⟩:=id hy
    obtain⟨g1,g2⟩:=hQ t ti ht hk.1 C _ _ xs ys r ox oy .eql hk.2.1 hk.2.2 hr hx hy
    exact⟨_,rfl,.bool r,mk _ g1 (yR rfl g2),rfl⟩
   ·cases h
  ·cases h
 ·
  split at h
  ·rename_i hs
   obtain⟨rfl,rfl⟩:=bP h
   obtain⟨el,hu⟩:=tV hT hs
   obtain⟨a,cap,rfl,_,hr⟩:=(hx:nN _ C.w C.ok _ _ vx)
   obtain rfl:vy= .slice none 0 0:=hy
   refine⟨_,rfl,.bool (a.isNone),mk _ (jY _ _ _ _ _ _ _ (.inl ⟨by simp,by simp⟩)) (Lib.run_eql_slice_nil C.w t el a _ cap 0 0 hu),⟨_,rfl,fun hp=>?_⟩⟩
   rcases hr with rfl|⟨c,o,rfl,_⟩
   ·simp[eqI,da]at hp
   ·rfl
  ·cases h
 ·
  split at h
  ·rename_i hs
   obtain⟨rfl,rfl⟩:=bP h
   obtain⟨el,hu⟩:=tV hT hs
   obtain⟨a,cap,rfl,_,hr⟩:=(hx:nN _ C.w C.ok _ _ vx)
   obtain rfl:vy= .slice none 0 0:=hy
   refine⟨_,rfl,.bool (!a.isNone),mk _ (jY _ _ _ _ _ _ _ (.inl ⟨by simp,by simp⟩)) (run_neq_slice_nil_any C.w t el a _ cap 0 0 hu),⟨_,rfl,fun hp=>?_⟩⟩
   rcases hr with rfl|⟨c,o,rfl,_⟩
   ·simp[eqI,da]at hp
   ·rfl
  ·cases h
 ·split at h
  ·rename_i ti ht
   split at h
   ·rename_i r hk hr
    simp only[ar]at hk
    obtain⟨rfl,rfl⟩:=bP h
    obtain⟨xs,rfl,_⟩:=id hx
    obtain⟨ys,rfl,_⟩:=id hy
    obtain⟨g1,g2⟩:=hQ t ti ht hk.1 C _ _ xs ys r ox oy .neq hk.2.1 hk.2.2 hr hx hy
    exact⟨_,rfl,.bool (bm r),mk _ g1 (yT rfl g2),rfl⟩
   ·cases h
  ·cases h
 ·cases h
theorem JW {op:UnOp}{x:AV}{vx:Value}(hx:TR C x vx){asks:List Bool}{e:Eff}(h:unC op x= .ret asks e):
  ∃a,e=⟨a,[],[]⟩/\∃v,(Op.unary op vx).run P C.w= .ok v C.w/\TR C a v:=by
 unfold unC at h
 split at h
 ·rename_i b;obtain rfl:vx= .bool b:=hx
  obtain⟨rfl,rfl⟩:=bP h;exact⟨_,rfl,.bool (bm b),rfl,rfl⟩
 ·rename_i j n;obtain rfl:vx= .int j n:=hx
  obtain⟨rfl,rfl⟩:=bP h;exact⟨_,rfl,.int j (bo j 0 n),rfl,rfl⟩
 ·rename_i j n;obtain rfl:vx= .int j n:=hx
  obtain⟨rfl,rfl⟩:=bP h;exact⟨_,rfl,.int j (AR j n),rfl,rfl⟩
 ·cases h
end
end Go.Den
namespace Go.Den
open Go.RowKit (Below)
theorem BR.ext {C C':Cx}(E:Ext C C'){b:Nat}{x:Blk}(h:BR C b x)(hl:C'.loc b=C.loc b)(hh:∀c,C.loc b=some c->C'.w.heap[c]? =C.w.heap[c]?):BR C' b x:=by
 cases x with
 |gone=>exact trivial
 |var cs=>
  obtain⟨c,arr,t,fr,h1,h2,h3,h4,h5⟩:=h
  exact⟨c,arr,t,fr,hl.trans h1,(hh c h1).trans h2,h3,h4.ext E,h5⟩
 |rowA cs=>
  obtain⟨c,arr,t,fr,h1,h2,h3,h4,h5⟩:=h
  exact⟨c,arr,t,fr,hl.trans h1,(hh c h1).trans h2,h3,h4.ext E,h5⟩
 |row t xs f=>
  simp only[BR]at h|-
  rw[hl]
  cases hc:C.loc b with
  |none=>rw[hc]at h;exact h
  |some c=>
   rw[hc]at h
   obtain⟨arr,t',fr,h2,⟨h3,h4⟩,h5⟩:=h
   refine⟨arr,t',fr,(hh c hc).trans h2,⟨h3,fun i x hx j a ha=>?_⟩,h5⟩
   obtain⟨v,hv,hr⟩:=h4 i x hx j a ha
   exact⟨v,hv,hr.ext E⟩
 |map t es=>
  obtain⟨c,ms,k,h1,h2,h3⟩:=h
  exact⟨c,ms,k,hl.trans h1,(hh c h1).trans h2,h3⟩
def Cx.push (C:Cx)(w':World)(b:Nat)(lo:Option Nat)(nb:Blk):Cx where
 w:=w'
 loc:=fun i=>if i=b then lo else C.loc i
 blk:=fun i=>if i=b then nb else C.blk i
 ok:=C.ok
 used:=fun i=>C.used i\/i=b
theorem Dv {w:World}{c:Nat}{x:TypeId×Nat}(h:w.shape? c=some x):c<w.heap.size:=by
 unfold World.shape? at h
 split at h
 ·rename_i hh;exact(mR.1 hh).1
 ·cases h
theorem tM {w w':World}{c:Nat}(h:w'.heap[c]? =w.heap[c]?):w'.shape? c=w.shape? c:=by
 unfold World.shape?;rw[h]
theorem m6 {w w':World}{c o:Nat}(h:w'.heap[c]? =w.heap[c]?):w'.cell? ⟨c,o,none⟩=w.cell? ⟨c,o,none⟩:=by
 unfold World.cell?;dsimp only;rw[h]
section
variable {P:Program}{T:Tr TI}{B:Bs}{s s':St}{C:Cx}
theorem oW (hI:Inv B s C){w':World}(hw:Below C.w.heap.size C.w w'){b:Nat}(hb:¬C.used b){lo:Option Nat}{nb:Blk}:Ext C (C.push w' b lo nb) where
 loc i c h:=by
  have:i≠b:=by rintro rfl;rw[(hI.us i hb).2]at h;cases h
  simp[Cx.push,this,h]
 used i h:= .inl h
 keep i h:=by
  have:i≠b:=by rintro rfl;exact hb h
  simp only[Cx.push,this,if_false]
  exact BK.refl _ trivial
 cell c o v hc hv:=by
  have:=(hI.okd c hc).1
  rw[<-hv];exact m6 (hw.block c this)
 ok c h:=h
 shape c x h:=by rw[<-h];exact tM (hw.block c (Dv h))
theorem CZ (hI:Inv B s C){w':World}(hw:Below C.w.heap.size C.w w'){b:Nat}(hb:¬C.used b){lo:Option Nat}{nb:Blk}
  (hlo:lo=none\/(lo=some C.w.heap.size/\C.w.heap.size<w'.heap.size)) (hbr:BR (C.push w' b lo nb) b nb)
  (hblk:∀i,s'.blk i=if i=b then nb else s.blk i) (hnp:s'.np=s.np) (hal:s'.al=s.al):Inv B s' (C.push w' b lo nb):=by
 have E:=oW hI hw hb (lo:=lo) (nb:=nb)
 have hne:∀i,C.used i->i≠b:=fun i h=>by rintro rfl;exact hb h
 have hloc:∀i,i≠b->(C.push w' b lo nb).loc i=C.loc i:=fun i h=>by simp[Cx.push,h]
 have hlb:(C.push w' b lo nb).loc b=lo:=by simp[Cx.push]
 have hold:∀c,c<C.w.heap.size->w'.heap[c]? =C.w.heap[c]? :=hw.block
 refine {eqb:=fun i=>?_,bl:=fun i=>?_,inj:=fun i j c hi hj h1 h2=>?_,lt:=fun i c h=>?_,us:=fun i hu=>?_,okd:=fun c hc=>?_,okS:=fun c hc=>?_,own:=fun i c hi h=>?_,lt0:=hI.lt0,inj0:=hI.inj0,pas:=fun i hi=>?_,pus:=fun i hi=> .inl (hI.pus i hi),frm:=?_,prt:=fun i hi c hc o hm=>?_,prt2:=fun i hi c hc hm=>?_,stay:=fun i hi hm=>?_,shp:=fun c x hx=>E.shape c x (hI.shp c x hx),wid:=fun i hi=>?_,npn:=hnp.trans hI.npn,all:=hal.trans hI.all}
 ·rw[hblk,<-hI.eqb];rfl
 ·rw[hblk]
  by_cases h:i=b
  ·subst h;rw[aa rfl];exact hbr
  ·rw[ae h]
   exact(hI.bl i).ext E (hloc i h) fun c hc=>hold c (hI.lt i c hc)
 ·rw[hblk]at hi hj
  by_cases h:i=b
  ·by_cases k:j=b
   ·rw[h,k]
   ·rw[h,hlb]at h1;rw[hloc j k]at h2
    rcases hlo with e|⟨e,_⟩
    ·rw[e]at h1;cases h1
    ·rw[e]at h1;cases h1;exact ah (hI.lt j _ h2) (by omega)
  ·by_cases k:j=b
   ·rw[k,hlb]at h2;rw[hloc i h]at h1
    rcases hlo with e|⟨e,_⟩
    ·rw[e]at h2;cases h2
    ·rw[e]at h2;cases h2;exact ah (hI.lt i _ h1) (by omega)
   ·rw[ae h]at hi;rw[ae k]at hj;rw[hloc i h]at h1;rw[hloc j k]at h2
    exact hI.inj i j c hi hj h1 h2
 ·by_cases k:i=b
  ·rw[k,hlb]at h
   rcases hlo with e|⟨e,hl⟩
   ·rw[e]at h;cases h
   ·rw[e]at h;cases h;exact hl
  ·rw[hloc i k]at h;exact dB (hI.lt i c h) hw.size
 ·have hu':¬C.used i/\i≠b:=⟨fun h=>hu (.inl h),fun h=>hu (.inr h)⟩
  rw[hblk,ae hu'.2,hloc i hu'.2]
  exact hI.us i hu'.1
 ·obtain⟨h1,h2⟩:=hI.okd c hc
  refine⟨dB h1 hw.size,fun i hi=>?_⟩
  rw[hblk]at hi
  by_cases k:i=b
  ·rw[k,hlb]
   rcases hlo with e|⟨e,_⟩
   ·rw[e];simp
   ·rw[e];simp;omega
  ·rw[ae k]at hi;rw[hloc i k];exact h2 i hi
 ·rcases hI.okS c hc with h|h|⟨i,h1,h2,h3,h4⟩
  ·exact .inl h
  ·exact .inr (.inl h)
  ·exact .inr (.inr ⟨i,h1,h2,by rw[hblk,ae (hne i (hI.pus i h1))];exact h3,h4⟩)
 ·rw[hblk]at hi
  by_cases k:i=b
  ·rw[k,hlb]at h
   rcases hlo with e|⟨e,hl⟩
   ·rw[e]at h;cases h
   ·rw[e]at h;cases h;exact .inr hI.frm.1.size
  ·rw[ae k]at hi;rw[hloc i k]at h;exact hI.own i c hi h
 ·rw[hloc i (hne i (hI.pus i hi))];exact hI.pas i hi
 ·refine⟨hI.frm.1.trans (hw.mono (iG _)),fun c hc h=>?_⟩
  exact(hold c (dB hc hI.frm.1.size)).trans (hI.frm.2 c hc h)
 ·have:c<C.w.heap.size:=hI.lt i c (by rw[hI.pas i hi];exact hc)
  exact(m6 (hold c this)).trans (hI.prt i hi c hc o hm)
 ·have:c<C.w.heap.size:=hI.lt i c (by rw[hI.pas i hi];exact hc)
  exact(hold c this).trans (hI.prt2 i hi c hc hm)
 ·rw[hblk,ae (hne i (hI.pus i hi))];exact hI.stay i hi hm
 ·rw[hblk,ae (hne i (hI.pus i hi))];exact hI.wid i hi
theorem mg (s:St)(d:Option Tmp)(v:AV)(nb:Blk)(i:Nat):(s.apply d ⟨v,[],[nb]⟩).blk i=if i=s.n then nb else s.blk i:=by
 simp only[St.apply,gV]
 simp only[St.blk,iM,cF,look_cons]
 by_cases h:s.n=i
 ·rw[aa h,aa h.symm]
 ·rw[ae h,ae (fun e=>h e.symm)]
theorem mh (s:St)(d:Option Tmp)(e:Eff):(s.apply d e).np=s.np:=by simp only[St.apply,ry]
theorem mf (s:St)(d:Option Tmp)(e:Eff):(s.apply d e).al=s.al:=by simp only[St.apply,rv]
theorem mZ (s:St)(d:Option Tmp)(e:Eff):(s.apply d e).n=s.n+lenN e.new:=by simp only[St.apply,yM]
theorem th {nt:Nat}{C':Cx}{a:Act}{d:Option Tmp}{e:Eff}{x:Value}(hA:AInv nt s C a)(E:Ext C C')(hd:∀i,d=some i->i<nt)(hv:TR C' e.v x):AInv nt (s.apply d e) C' (a.put d x):=
 hA.put E (s':={s with h:=iM s.n e.new (cF e.upd s.h),n:=s.n+lenN e.new,w:=match isNil e.upd with|true=>s.w|false=>true}) (fun _=>rfl) hd hv
theorem sy {nt:Nat}{a:Act}{d:Option Tmp}{v:AV}{x:Value}{nb:Blk}(hI:Inv B s C)(hA:AInv nt s C a)(hd:∀i,d=some i->i<nt)(hf:¬C.used s.n)
  {w':World} (hw:Below C.w.heap.size C.w w') {lo:Option Nat} (hlo:lo=none\/(lo=some C.w.heap.size/\C.w.heap.size<w'.heap.size))
  (hbr:BR (C.push w' s.n lo nb) s.n nb) (hv:TR (C.push w' s.n lo nb) v x):Post1 B nt s C ⟨v,[],[nb]⟩ d (a.put d x) w' (C.push w' s.n lo nb) where
 w:=rfl
 inv:=CZ hI hw hf hlo hbr (mg s d v nb) (mh _ _ _) (mf _ _ _)
 ain:=th hA (oW hI hw hf) hd hv
 ext:=oW hI hw hf
 use i:=by
  simp only[Cx.push,lenN]
  constructor
  ·rintro(h|rfl)
   ·exact .inl h
   ·exact .inr ⟨bV _,by omega⟩
  ·rintro(h|h)
   ·exact .inl h
   ·exact .inr (by omega)
 quiet _:=hw
theorem kW (w:World)(o:Obj):Below w.heap.size w (w.alloc o):=(Below.refl _ _).alloc (bV _) o
theorem nv (w:World)(o:Obj):(w.alloc o).heap[w.heap.size]? =some o:=by show(w.heap.push o)[w.heap.size]? =some o;simp
theorem ta (w:World)(o:Obj):(w.alloc o).heap.size=w.heap.size+1:=by show(w.heap.push o).size=_;simp
theorem AU (arr:Array Value):NF arr (0,0):=fun _ _ h=>ah h.2 (cN _)
theorem xG (t:Tag)(arr:Array Value):NE t arr (0,0):=⟨AU arr,fun _ h=>ah h.2 (cN _)⟩
theorem NE.of {t:Tag}{arr arr':Array Value}{fr:Nat×Nat}(h:NE t arr fr)(e:arr'.size=arr.size):NE t arr' fr:=⟨fun o ho=>h.1 o (by omega),fun ht=>by rw[e];exact h.2 ht⟩
theorem Dp {nt:Nat}{a:Act}{d:Option Tmp}{cs:List AV}(hI:Inv B s C)(hA:AInv nt s C a)(hd:∀i,d=some i->i<nt)(hf:¬C.used s.n){arr:Array Value}{t:TypeId}
  (hs:arr.size=bw cs) (hc:CR C cs (fun o=>arr[o]?)):
  ∃C',Post1 B nt s C ⟨.ptr s.n 0,[],[.var cs]⟩ d (a.put d (.pointer (some ⟨C.w.heap.size,0,none⟩))) (C.w.alloc (.cells arr t)) C':=by
 have hw:=kW C.w (.cells arr t)
 refine⟨_,sy (lo:=some C.w.heap.size) hI hA hd hf hw (.inr ⟨rfl,by rw[ta];omega⟩) ?_ ?_⟩
 ·exact⟨C.w.heap.size,arr,t,(0,0),by simp[Cx.push],nv _ _,hs,hc.ext (oW hI hw hf),AU arr⟩
 ·exact⟨C.w.heap.size,by simp[Cx.push],rfl⟩
theorem sA {nt:Nat}{a:Act}{d:Option Tmp}{tg:Tag}{xs:List (El tg)}(hI:Inv B s C)(hA:AInv nt s C a)(hd:∀i,d=some i->i<nt)(hf:¬C.used s.n){arr:Array Value}{t:TypeId}{fr:Nat×Nat}{cap:Nat}
  {w':World} (hw:Below C.w.heap.size C.w w') (hat:w'.heap[C.w.heap.size]? =some (.cells arr t fr)) (hn:NE tg arr fr) (hr:RowC (R1 C.w C.ok) tg xs arr) (hcap:xs.length<=cap) (hcs:cap*esz tg<=arr.size):
  ∃C',Post1 B nt s C ⟨.vec s.n,[],[.row tg xs false]⟩ d (a.put d (.slice (some ⟨C.w.heap.size,0,none⟩) xs.length cap)) w' C':=by
 have hlt:C.w.heap.size<w'.heap.size:=(mR.1 hat).1
 have E:=oW (lo:=some C.w.heap.size) (nb:= .row tg xs false) hI hw hf
 refine⟨_,sy (lo:=some C.w.heap.size) hI hA hd hf hw (.inr ⟨rfl,hlt⟩) ?_ ?_⟩
 ·simp only[BR,Cx.push,if_true]
  refine⟨arr,t,fr,hat,⟨hr.1,fun i x hx j a ha=>?_⟩,fun _=>hn⟩
  obtain⟨v,hv,hrr⟩:=hr.2 i x hx j a ha
  exact⟨v,hv,hrr.ext E⟩
 ·refine⟨.inr rfl,⟨_,_,_,rfl⟩,?_⟩
  simp only[Cx.push,if_true]
  exact⟨cap,t,arr.size,rfl,hcap,by simp[World.shape?,hat],hcs⟩
end
end Go.Den
namespace Go.Den
open Go.RowKit (Below)
section
variable {P:Program}{T:Tr TI}{B:Bs}{s:St}{C:Cx}
theorem VP.one {a:AV}{v:Value}(h:VP C a v)(ha:a≠ .dead):v.cells= #[v]:=by
 cases a with
 |bool=>cases h;rfl
 |int=>cases h;rfl
 |str=>cases h;rfl
 |nilp=>cases h;rfl
 |ptr=>obtain⟨_,_,rfl⟩:=h;rfl
 |ptrI=>obtain⟨_,_,_,_,rfl⟩:=h;rfl
 |ptrE=>obtain⟨_,_,_,_,rfl,_⟩:=h;rfl
 |ptrL=>obtain⟨_,_,_,_,_,rfl⟩:=h;rfl
 |nils=>cases h;rfl
 |list=>obtain⟨_,_,rfl,_⟩:=h;rfl
 |vec=>obtain⟨_,⟨_,_,_,rfl⟩,_⟩:=h;rfl
 |pre=>obtain⟨_,⟨_,_,_,rfl⟩,_⟩:=h;rfl
 |suf=>obtain⟨_,⟨_,_,_,rfl⟩,_⟩:=h;rfl
 |nilf=>cases h;rfl
 |err b=>cases b with
  |true=>cases h;rfl
  |false=>obtain⟨_,_,rfl⟩:=h;rfl
 |mapr=>obtain⟨_,_,rfl⟩:=h;rfl
 |dead=>exact ah rfl ha
 |anyb=>obtain⟨_,rfl,_⟩:=h;rfl
 |arr=>exact h.elim
 |agg=>exact h.elim
 |tup=>exact h.elim
 |func=>exact h.elim
theorem VR.one {a:AV}{v:Value}(h:VR C a v)(ha:a≠ .dead):v.cells= #[v]:=by
 cases a with
 |func=>obtain⟨_,_,rfl,_⟩:=h;rfl
 |_=>simp only[VR]at h;exact VP.one h ha
theorem VR.width {a:AV}{v:Value}(h:VR C a v):a.width=1:=by
 cases a<;>first|rfl|exact h.elim
theorem TR.cells {a:AV}{v:Value}(h:TR C a v)(ha:a.cells≠[]):v.cells.size=bw a.cells/\CR C a.cells (fun o=>v.cells[o]?):=by
 have one:VR C a v->a≠ .dead->a.cells=[a]->v.cells.size=bw a.cells/\CR C a.cells (fun o=>v.cells[o]?):=by
  intro hr hd hc
  rw[hc,hr.one hd]
  exact⟨by simp[bw,hr.width],CR.mk ((ER.of_one hr.not_arr).2 ⟨v,rfl,hr⟩) (fun i a ha=>by simp at ha)⟩
 cases a with
 |agg cs=>obtain⟨l,rfl,h1,h2⟩:=h;exact⟨h1,h2⟩
 |dead=>exact ah rfl ha
 |tup=>exact ah rfl ha
 |arr=>exact ah rfl ha
 |_=>exact one h (by simp) rfl
theorem Bb {tg:Tag}{cs:List AV}{x:El tg}(h:dec tg cs=some x):∀(j:Nat) a,(enc tg x)[j]? =some a->∃b,cs[j]? =some b/\(b=a\/(a= .list .ins []/\b= .nils)):=by
 have same:enc tg x=cs->∀(j:Nat) a,(enc tg x)[j]? =some a->∃b,cs[j]? =some b/\(b=a\/(a= .list .ins []/\b= .nils)):=by
  intro e j a ha;rw[e]at ha;exact⟨a,ha,.inl rfl⟩
 have uX:∀ {cs:List AV} {x:Ins},decI cs=some x->HN x=cs:=by
  intro cs x h
  unfold decI at h
  split at h
  ·obtain rfl:=aw h;rfl
  ·cases h
 unfold dec at h
 split at h<;>first
  |(obtain rfl:=aw h;exact same rfl)
  |(exact same (uX h))
  |skip
 ·split at h
  ·rename_i y hy
   obtain rfl:=aw h
   exact same (by show _::HN _=_;rw[uX hy])
  ·cases h
 ·obtain rfl:=aw h
  intro j a ha
  rcases j with _|_|_|_|j<;>simp[enc]at ha<;>subst ha
  ·exact⟨.nils,rfl,.inr ⟨rfl,rfl⟩⟩
  ·exact⟨_,rfl,.inl rfl⟩
  ·exact⟨_,rfl,.inl rfl⟩
  ·exact⟨_,rfl,.inl rfl⟩
 ·cases h
def vu:AV->Bool
 | .bool _| .int _ _| .str _=>true
 |_=>false
theorem qM {t:Tag}(ht:t≠ .grp)(x:El t):∀a∈enc t x,vu a=true:=by
 cases t<;>simp_all[enc,HN,vu]
theorem R0.of_R1 {w:World}{ok:Nat->Prop}{a:AV}{v:Value}(ha:vu a=true)(h:R1 w ok a v):R0 a v:=by
 rcases h with h|⟨t,xs,rfl,_⟩
 ·exact h
 ·cases ha
theorem R0.of_VR {a:AV}{v:Value}(ha:vu a=true)(h:VR C a v):R0 a v:=by
 cases a<;>first|(have h':_=_:=h;subst h';rfl)|cases ha
theorem CM {t:Tag}{x:El t}{a:AV}(ha:a∈enc t x):vu a=true\/∃l,a= .list .ins l:=by
 by_cases ht:t= .grp
 ·subst ht
  simp[enc]at ha
  rcases ha with rfl|rfl|rfl|rfl
  ·exact .inr ⟨_,rfl⟩
  all_goals exact .inl rfl
 ·exact .inl (qM ht x a ha)
theorem nN.pure {w:World}{ok:Nat->Prop}{l:List Ins}{v:Value}(h:nN (R1 w ok) w ok .ins l v):nN R0 w ok .ins l v:=by
 obtain⟨a,cap,rfl,hc,hr⟩:=h
 refine⟨a,cap,rfl,hc,hr.imp id fun⟨c,o,ha,hok,hr⟩=>⟨c,o,ha,hok,fun i x hx j e he=>?_⟩⟩
 obtain⟨u,hu,hrr⟩:=hr i x hx j e he
 exact⟨u,hu,R0.of_R1 (qM (by decide) x e (cw he)) hrr⟩
theorem R1.of_VR {t:Tag}{x:El t}{a:AV}(ha:a∈enc t x){v:Value}(h:VR C a v):R1 C.w C.ok a v:=by
 rcases CM ha with hs|⟨l,rfl⟩
 ·exact .inl (R0.of_VR hs h)
 ·exact .inr ⟨.ins,l,rfl,nN.pure h⟩
theorem sh {tg:Tag}{cs:List AV}{x:El tg}(h:dec tg cs=some x){g:Nat->Option Value}(hc:CR C cs g)(hw:∀a∈cs,a.width=1):
  ∀(j:Nat) a,(enc tg x)[j]? =some a->∃v,g j=some v/\R1 C.w C.ok a v:=by
 intro j a ha
 obtain⟨b,hb,he⟩:=Bb h j a ha
 have hj:j<cs.length:=(bj.1 hb).1
 have:=hc j b hb
 rw[jU cs hw j (by omega)]at this
 rcases he with rfl|⟨rfl,rfl⟩
 ·obtain⟨v,hv,hr⟩:=(ER.of_one (kG tg x b (cw ha))).1 this
  exact⟨v,hv,R1.of_VR (cw ha) hr⟩
 ·obtain⟨v,hv,hr⟩:=this
  obtain rfl:v= .slice none 0 0:=hr
  exact⟨_,hv,.inr ⟨.ins,[],rfl,none,0,rfl,bV _,.inl rfl⟩⟩
theorem uX {cs:List AV}{x:Ins}(h:decI cs=some x):HN x=cs:=by
 unfold decI at h
 split at h
 ·obtain rfl:=aw h;rfl
 ·cases h
theorem xU {tg:Tag}{cs:List AV}{x:El tg}(h:dec tg cs=some x):cs.length=esz tg:=by
 unfold dec at h
 split at h<;>first
  |rfl
  |(rw[<-uX h];rfl)
  |(cases h;done)
  |skip
 split at h
 ·rename_i y hy
  rw[<-uX hy];rfl
 ·cases h
theorem mH {tg:Tag}{cs:List AV}{x:El tg}(h:dec tg cs=some x):∀a∈cs,a.width=1:=by
 intro a ha
 obtain⟨j,hj,rfl⟩:=jN ha
 have hj':j<(enc tg x).length:=by rw[fj,<-xU h];exact hj
 obtain⟨b,hb,he⟩:=Bb h j (enc tg x)[j] (co hj')
 rw[co hj]at hb
 obtain rfl:=aw hb
 rcases he with he|⟨_,he⟩
 ·rw[he];exact jm tg x _ (fG hj')
 ·rw[he];rfl
theorem vW (off:Nat):∀(l:List (Value×Nat)) (cells:Array Value),(l.foldl (fun cs (c:Value×Nat)=>cs.setIfInBounds (off+c.2) c.1) cells).size=cells.size
 |[],_=>rfl
 |x::r,cells=>by simp only[List.foldl_cons];rw[vW off r];simp
theorem uE (off:Nat):∀(vs:List Value) (k:Nat) (cells:Array Value) (p:Nat),p<cells.size->
  ((vs.zipIdx k).foldl (fun cs (c:Value×Nat)=>cs.setIfInBounds (off+c.2) c.1) cells)[p]? =if off+k<=p/\p<off+k+vs.length then vs[p-(off+k)]? else cells[p]?
 |[],k,cells,p,_=>by simp;omega
 |v::r,k,cells,p,hp=>by
  simp only[List.zipIdx_cons,List.foldl_cons]
  rw[uE off r (k+1) _ p (by simpa using hp)]
  by_cases h1:off+(k+1)<=p/\p<off+(k+1)+r.length
  ·rw[aa h1,aa (by simp;omega),show p-(off+k)=(p-(off+(k+1)))+1 by omega,qp]
  ·rw[ae h1,Array.getElem?_setIfInBounds]
   by_cases h2:off+k=p
   ·subst h2
    rw[aa rfl,aa hp,aa ⟨by omega,by simp⟩]
    simp
   ·rw[ae h2,ae (by simp;omega)]
theorem va (size:Nat):∀(ps:List (Nat×Value)) (k:Nat) (cells:Array Value),(∀(j:Nat) p,ps[j]? =some p->p.1=k+j/\p.2.cells.size=size)->(k+ps.length)*size<=cells.size->
  ∃out,Instr.fill (fun i=>some (i*size,size)) cells ps=some out/\out.size=cells.size/\(∀p,p<k*size->out[p]? =cells[p]?)/\∀(j:Nat) p,ps[j]? =some p->∀q,q<size->out[(k+j)*size+q]? =p.2.cells[q]?
 |[],k,cells,_,_=>⟨cells,rfl,rfl,fun _ _=>rfl,fun j p h=>by simp at h⟩
 |(i,v)::r,k,cells,h,hb=>by
  obtain⟨h0,h1⟩:=h 0 (i,v) rfl
  simp only[iA]at h0 h1
  subst h0
  simp only[fa]at hb
  have hle:i*size+size<=cells.size:=by
   have:(i+1)*size<=(i+(r.length+1))*size:=ed _ (by omega)
   rw[ci,jg]at this;omega
  let c1:=v.cells.zipIdx.foldl (fun cs (c:Value×Nat)=>cs.setIfInBounds (i*size+c.2) c.1) cells
  have hc1:c1=(v.cells.toList.zipIdx 0).foldl (fun cs (c:Value×Nat)=>cs.setIfInBounds (i*size+c.2) c.1) cells:=by
   show v.cells.zipIdx.foldl _ cells=_
   rw[<-Array.foldl_toList];simp
  have hs1:c1.size=cells.size:=by rw[hc1,vW]
  obtain⟨out,ho,hso,hlo,hro⟩:=va size r (i+1) c1 (fun j p hp=>by
   obtain⟨h2,h3⟩:=h (j+1) p hp
   exact⟨by omega,h3⟩) (by rw[hs1];rw[show i+1+r.length=i+(r.length+1)by omega];exact hb)
  refine⟨out,?_,hso.trans hs1,fun p hp=>?_,fun j p hp q hq=>?_⟩
  ·unfold Instr.fill
   simp only
   rw[ae (by simp[h1];omega)]
   exact ho
  ·rw[hlo p (by rw[ci];omega),hc1,uE _ _ 0 cells p (by omega),ae (by omega)]
  ·cases j with
   |zero=>
    simp at hp;subst hp
    have hq':i*size+q<cells.size:=by omega
    rw[iA,hlo _ (by rw[ci];omega),hc1,uE _ _ 0 cells _ hq',aa (by simp[h1];omega)]
    simp[Array.getElem?_toList]
   |succ j=>
    have:=hro j p (by simpa using hp) q hq
    rw[show i+(j+1)=i+1+j by omega]
    exact this
end
end Go.Den
namespace Go.Den
open Go.RowKit (Below)
section
variable {P:Program}{T:Tr TI}{B:Bs}{s:St}{C:Cx}
theorem CR.append:∀ {p r:List AV} {g:Nat->Option Value},CR C p g->CR C r (fun o=>g (bw p+o))->CR C (p++r) g
 |[],r,g,_,h=>by simpa[bw]using h
 |a::p,r,g,h1,h2=>by
  obtain⟨h3,h4⟩:=h1.cons
  refine CR.mk h3 (CR.append h4 ?_)
  refine h2.congr fun o _=>?_
  simp[bw,iz]
theorem CR.replace {cs new old:List AV}{o n j:Nat}{g h g':Nat->Option Value}(hc:CR C cs g)(hs:uq cs o n=some (j,old))(hn:CR C new h)(hw:bw new=n)
  (hg:∀p,o<=p->p<o+n->g' p=h (p-o)) (hg':∀p,p<o\/o+n<=p->g' p=g p):CR C (takeN j cs++(new++dropN (j+lenN old) cs)) g'/\bw (takeN j cs++(new++dropN (j+lenN old) cs))=bw cs:=by
 obtain⟨h1,h2,h3,h4,h5⟩:=jV hs
 rw[takeN_eq,dropN_eq,lenN_eq]
 have hp:CR C (cs.take j) g:=by have:=h1▸hc;exact(CR.mid (p:=[]) (r:=cs.take j) (q:=old++cs.drop (j+old.length)) (g:=g) (by simpa using h1▸hc)).congr fun o _=>by simp[bw]
 have hq:CR C (cs.drop (j+old.length)) (fun k=>g (o+n+k)):=by
  have:=CR.mid (p:=cs.take j++old) (r:=cs.drop (j+old.length)) (q:=[]) (g:=g) (C:=C) (by simpa using (show cs=cs.take j++(old++cs.drop (j+old.length))from h1)▸hc)
  rw[bO,h3,h4]at this
  exact this
 constructor
 ·refine CR.append (hp.congr fun k hk=>hg' k (.inl (by omega))) ?_
  refine CR.append (hn.congr fun k hk=>?_) (hq.congr fun k hk=>?_)
  ·rw[h3,hg (o+k) (by omega) (by omega)];congr 1;omega
  ·rw[h3,hw,show o+(n+k)=o+n+k by omega];exact hg' _ (.inr (by omega))
 ·rw[h1]
  simp only[bO,bO]
  have e:bw (cs.take j)+(bw old+bw (cs.drop (j+old.length)))=bw cs:=by
   rw[<-bO,<-bO,<-h1]
  rw[<-h1]
  omega
theorem Ar:∀(fs:List Field),(∀f∈fs,∃j,P.info? f.type=some j)->∃pl,fs.mapM (fun f=>(P.info? f.type).map fun i=>(f.offset,i.size))=some pl/\∀(k:Nat) f,fs[k]? =some f->∃j,P.info? f.type=some j/\pl[k]? =some (f.offset,j.size)
 |[],_=>⟨[],rfl,fun k f h=>by simp at h⟩
 |f::fs,h=>by
  obtain⟨j,hj⟩:=h f (by simp)
  obtain⟨pl,hp,hk⟩:=Ar fs fun g hg=>h g (by simp[hg])
  refine⟨(f.offset,j.size)::pl,by simp[List.mapM_cons,hj,hp],fun k g hg=>?_⟩
  cases k with
  |zero=>simp at hg;subst hg;exact⟨j,hj,rfl⟩
  |succ k=>exact hk k g (by simpa using hg)
theorem isNil_iff.{u}{α:Type u}{l:List α}:isNil l=false↔l≠[]:=by cases l<;>simp[isNil]
theorem Jz (off:Nat)(v cells:Array Value)(_h:off+v.size<=cells.size):
  let c1:=v.zipIdx.foldl (fun cs (c:Value×Nat)=>cs.setIfInBounds (off+c.2) c.1) cells
  c1.size=cells.size/\∀p,p<cells.size->c1[p]? =if off<=p/\p<off+v.size then v[p-off]? else cells[p]? :=by
 intro c1
 have hc1:c1=(v.toList.zipIdx 0).foldl (fun cs (c:Value×Nat)=>cs.setIfInBounds (off+c.2) c.1) cells:=by
  show v.zipIdx.foldl _ cells=_
  rw[<-Array.foldl_toList];simp
 refine⟨by rw[hc1,vW],fun p hp=>?_⟩
 rw[hc1,uE _ _ 0 cells p hp]
 simp
theorem FQ {nt:Nat}{a:Act}(hA:AInv nt s C a){pl:List (Nat×Nat)}{fs:Nat->Nat->Option Nat}(hpl:∀i w o,fs i w=some o->pl[i]? =some (o,w)):
  ∀(ps:List (Nat×Operand)) (cs cs':List AV) (cells:Array Value),CR C cs (fun o=>cells[o]?)->cells.size=bw cs->zE fs s cs ps=some cs'->
   ∃out,Instr.fill (pl.toArray[·]?) cells (ps.map fun p=>(p.1,a.eval p.2))=some out/\CR C cs' (fun o=>out[o]?)/\out.size=bw cs'
 |[],cs,cs',cells,hc,hs,h=>by
  simp[zE]at h;subst h;exact⟨cells,rfl,hc,hs⟩
 |(i,x)::r,cs,cs',cells,hc,hs,h=>by
  simp only[zE]at h
  split at h
  ·rename_i o ho
   split at h
   ·rename_i j old hsub
    split at h
    ·rename_i hnil
     have hp:=hpl i _ o ho
     obtain⟨h1,h2,h3,h4,h5⟩:=jV hsub
     obtain⟨hv1,hv2⟩:=(gp hA x).cells (isNil_iff.1 hnil)
     have hle:o+(a.eval x).cells.size<=cells.size:=by
      rw[hv1,hs,h1,bO,bO,h3,h4];omega
     obtain⟨g1,g2⟩:=Jz o (a.eval x).cells cells hle
     have hcr:=CR.replace (g':=fun p=>((a.eval x).cells.zipIdx.foldl (fun cs (c:Value×Nat)=>cs.setIfInBounds (o+c.2) c.1) cells)[p]?) hc hsub hv2 rfl
      (fun p h1 h2=>by rw[g2 p (by omega),aa ⟨h1,by omega⟩])
      (fun p hp=>by
       by_cases hpc:p<cells.size
       ·rw[g2 p hpc,ae (by omega)]
       ·rw[sR (by omega),sR (by omega)])
     obtain⟨out,ho',hr⟩:=FQ hA hpl r _ cs' _ hcr.1 (by rw[g1,hs,hcr.2]) h
     refine⟨out,?_,hr⟩
     simp only[jQ,Instr.fill]
     rw[show pl.toArray[i]? =some (o,bw (s.ev x).cells)by simpa using hp]
     simp only
     rw[ae (by simp[hv1];omega)]
     exact ho'
    ·cases h
   ·cases h
  ·cases h
theorem A3 (hT:TOK P T){nt:Nat}{a:Act}(hA:AInv nt s C a){t:TypeId}{ps:List (Nat×Operand)}{asks:List Bool}{e:Eff}(h:CF T s t ps= .ret asks e):
  ∃v,e=⟨v,[],[]⟩/\∃x,(Instr.build t (ps.toArray.map fun(i,x)=>(i,a.eval x))).run P C.w= .ok x C.w/\TR C v x:=by
 unfold CF at h
 split at h
 ·rename_i ti ht
  obtain⟨i,d,F⟩:=hT.fact ht
  split at h
  ·rename_i fs hd
   split at h
   ·rename_i cs hcs
    obtain⟨rfl,rfl⟩:=bP h
    have hdd:=F.desc
    rw[hd]at hdd
    obtain⟨gs,rfl,hgs⟩:=uZ hdd
    obtain⟨z,hz,hzw,hzo⟩:=F.zero
    obtain⟨hz1,hz2⟩:=lS C _ _ hzo
    obtain⟨pl,hpl,hpk⟩:=Ar (P:=P) gs.toList (F.flds gs rfl)
    have hoff:∀i w o,ye T fs i w=some o->pl[i]? =some (o,w):=by
     intro k w o hk
     unfold ye at hk
     split at hk
     ·rename_i o' ft hn
      split at hk
      ·rename_i tf htf
       split at hk
       ·rename_i hw
        obtain rfl:=aw hk
        obtain rfl:=j4.1 hw
        obtain⟨g,hg,rfl,rfl⟩:=pE fs gs.toList k _ ft hgs hn
        obtain⟨j,hj,hp⟩:=hpk k g hg
        obtain⟨i',d',F'⟩:=hT.fact htf
        rw[F'.info]at hj
        obtain rfl:=aw hj
        rw[hp,F'.size]
       ·cases hk
      ·cases hk
     ·cases hk
    obtain⟨out,ho,hc,hs⟩:=FQ hA hoff ps ti.zero cs z.cells (by simpa using hz2) (by rw[hz1];simp) hcs
    refine⟨_,rfl,.agg out,run_build C.w t _ out ?_,⟨out,rfl,hs,hc⟩⟩
    simp only[Program.built,F.info,F.und,hz,hpl]
    simpa using ho
   ·cases h
  ·rename_i n e hd
   split at h
   ·rename_i te hte hnil
    obtain⟨rfl,rfl⟩:=bP h
    have hdd:=F.desc
    rw[hd]at hdd
    obtain rfl:=qL hdd
    obtain⟨z,hz,hzw,hzo⟩:=F.zero
    obtain⟨hz1,hz2⟩:=lS C _ _ hzo
    obtain⟨i',d',F'⟩:=hT.fact hte
    obtain rfl:ps=[]:=by
     cases ps with
     |nil=>rfl
     |cons a b=>simp[isNil]at hnil
    refine⟨_,rfl,.agg z.cells,run_build C.w t _ z.cells ?_,⟨z.cells,rfl,by rw[hz1];simp,by simpa using hz2⟩⟩
    simp[Program.built,F.info,F.und,hz,F'.info,Instr.fill]
   ·cases h
  ·cases h
 ·cases h
theorem CL {nt:Nat}{a:Act}(hA:AInv nt s C a){tg:Tag}:∀(ps:List (Nat×Operand)) (k:Nat) (l:List (El tg)),pC tg s k ps=some l->
  l.length=ps.length/\(∀(j:Nat) p,(ps.map fun p=>(p.1,a.eval p.2))[j]? =some p->p.1=k+j/\p.2.cells.size=esz tg)/\
  ∀(j:Nat) x,l[j]? =some x->∃p,(ps.map fun p=>(p.1,a.eval p.2))[j]? =some p/\∀(q:Nat) e,(enc tg x)[q]? =some e->∃v,p.2.cells[q]? =some v/\R1 C.w C.ok e v
 |[],k,l,h=>by simp[pC]at h;subst h;simp
 |(i,x)::r,k,l,h=>by
  simp only[pC]at h
  split at h
  ·rename_i e
   obtain rfl:=j4.1 e
   split at h
   ·rename_i y hy
    split at h
    ·rename_i l' hl
     obtain rfl:=aw h
     obtain⟨h1,h2,h3⟩:=CL hA r (k+1) l' hl
     have hlen:=xU hy
     have hne:(s.ev x).cells≠[]:=by
      intro hn;rw[hn]at hlen;cases tg<;>simp[esz]at hlen
     obtain⟨hv1,hv2⟩:=(gp hA x).cells hne
     have hw:=mH hy
     refine⟨by simp[h1],fun j p hp=>?_,fun j z hz=>?_⟩
     ·cases j with
      |zero=>simp at hp;subst hp;exact⟨by simp,by rw[hv1,gw _ hw,hlen]⟩
      |succ j=>obtain⟨g1,g2⟩:=h2 j p (by simpa using hp);exact⟨by omega,g2⟩
     ·cases j with
      |zero=>simp at hz;subst hz;exact⟨_,rfl,sh hy hv2 hw⟩
      |succ j=>exact h3 j z (by simpa using hz)
    ·cases h
   ·cases h
  ·cases h
theorem u3 (t:Tag):0<esz t:=by cases t<;>simp[esz]
end
end Go.Den
namespace Go.Den
open Go.RowKit (Below)
section
variable {P:Program}{T:Tr TI}{B:Bs}{s:St}{C:Cx}
theorem wI {nt:Nat}{a:Act}(hA:AInv nt s C a):∀(ps:List (Nat×Operand)) (k:Nat) (l:List AV),cellsOf s k ps=some l->
  l.length=ps.length/\(∀(j:Nat) p,(ps.map fun p=>(p.1,a.eval p.2))[j]? =some p->p.1=k+j/\p.2.cells.size=1)/\
  ∀(j:Nat) x,l[j]? =some x->∃p,(ps.map fun p=>(p.1,a.eval p.2))[j]? =some p/\∃v,p.2.cells[0]? =some v/\VR C x v
 |[],k,l,h=>by simp[cellsOf]at h;subst h;simp
 |(i,x)::r,k,l,h=>by
  simp only[cellsOf]at h
  split at h
  ·rename_i e
   obtain rfl:=j4.1 e
   split at h
   ·rename_i l' hl
    split at h
    ·cases h
    ·rename_i b hna hb
     obtain rfl:=aw h
     obtain⟨h1,h2,h3⟩:=wI hA r (k+1) l' hl
     obtain⟨hv1,hv2⟩:=(gp hA x).cells (by rw[hb];simp)
     rw[hb]at hv1 hv2
     have hn:∀t n xs,b≠ .arr t n xs:=by
      rintro t n xs rfl
      exact hna t n xs rfl
     obtain⟨v,hv,hr⟩:=(ER.of_one hn).1 hv2.cons.1
     refine⟨by simp[h1],fun j p hp=>?_,fun j z hz=>?_⟩
     ·cases j with
      |zero=>simp at hp;subst hp;exact⟨by simp,by rw[hv1];simp[bw,hr.width]⟩
      |succ j=>obtain⟨g1,g2⟩:=h2 j p (by simpa using hp);exact⟨by omega,g2⟩
     ·cases j with
      |zero=>simp at hz;subst hz;exact⟨_,rfl,v,hv,hr⟩
      |succ j=>exact h3 j z (by simpa using hz)
    ·cases h
   ·cases h
  ·cases h
theorem modOK {z:Array Value}(n size:Nat)(hz:z.size=size){p i j:Nat}(hp:p=i*size+j)(hj:j<size)(hn:p<n):(madeCells z n)[p]? =z[j]? :=by
 have hm:p%z.size=j:=by rw[hz,hp,cH,Nat.mul_add_mod];exact cb hj
 have hjz:j<z.size:=by omega
 simp[madeCells,hn,hm,hjz]
theorem uf (hT:TOK P T)(hI:Inv B s C){nt:Nat}{a:Act}(hA:AInv nt s C a){d:Option Tmp}(hd:∀i,d=some i->i<nt){t:TypeId}{len:Nat}{ps:List (Nat×Operand)}{asks:List Bool}{e:Eff}
  (h:oV T s t len ps= .ret asks e) (hf:∀i,i<lenN e.new->¬C.used (s.n+i)):
  ∃x w' C',(Instr.buildSlice t len (ps.toArray.map fun(i,x)=>(i,a.eval x))).run P C.w= .ok x w'/\Post1 B nt s C e d (a.put d x) w' C':=by
 unfold oV at h
 split at h
 ·rename_i ti ht
  obtain⟨i,dd,F⟩:=hT.fact ht
  have hdd:=F.desc
  split at h
  ·rename_i e' hd'
   rw[hd']at hdd
   obtain rfl:=dx hdd
   split at h
   ·rename_i te hte
    obtain⟨i',d',F'⟩:=hT.fact hte
    obtain⟨z,hz,hzw,hzo⟩:=F'.zero
    have hzl:z.cells.size=te.size:=by
     have:=(lS C _ _ hzo).1
     simpa[hzw]using this.symm
    split at h
    ·rename_i tg htg
     have hsz:=(F'.tag tg htg).1
     split at h
     ·rename_i l hl hel
      obtain⟨rfl,rfl⟩:=OpRes.ret.inj h
      simp only[ar,j4,lenN_eq]at hl
      obtain⟨rfl,hl2⟩:=hl
      have hl2:=i9 hl2
      obtain⟨h1,h2,h3⟩:=CL hA ps 0 l hel
      have hf0:¬C.used s.n:=by have:=hf 0 (by simp[lenN]);simpa using this
      have hsmall:¬ps.length*i'.size>2^24:=by
       rw[F'.size,hsz]
       have:esz tg<=20:=by cases tg<;>simp[esz]
       have:=mB hl2 this
       omega
      by_cases hpos:ps.length=0
      ·have hps:ps=[]:=ly hpos
       subst hps
       have hl0:l=[]:=ly (by simpa using h1)
       subst hl0
       have hw:=kW C.w (.cells #[] e')
       obtain⟨C',hP⟩:=sA (tg:=tg) (xs:=[]) (cap:=0) hI hA hd hf0 hw (nv _ _) (xG _ _) ⟨by simp,fun i x hx=>by simp at hx⟩ (bV _) (by simp)
       refine⟨_,_,C',?_,hP⟩
       simp[Instr.buildSlice,F.run_und,F'.run_size,Instr.fill,newRow,Array.range_zero']
      ·have hpos':¬ps.length*i'.size=0:=by
        rw[F'.size,hsz]
        have:=u3 tg
        intro h0
        rcases Nat.mul_eq_zero.1 h0 with h0|h0<;>omega
       obtain⟨out,ho1,ho2,_,ho4⟩:=va i'.size (ps.map fun p=>(p.1,a.eval p.2)) 0 ((Array.range (ps.length*i'.size)).map (z.cells[· %z.cells.size]!))
        (fun j p hp=>by rw[F'.size,hsz];exact h2 j p hp) (by simp)
       have hrun:=run_buildSlice (P:=P) C.w t e' ps.length (ps.toArray.map fun(i,x)=>(i,a.eval x)) out i' z F.und F'.info hz hsmall hpos' (by simpa using ho1)
       have hw:=kW C.w (.cells out e')
       have hos:out.size=ps.length*esz tg:=by rw[ho2];simp[F'.size,hsz]
       obtain⟨C',hP⟩:=sA (tg:=tg) (xs:=l) (cap:=ps.length) hI hA hd hf0 hw (nv _ _) (xG _ _) ⟨by rw[hos,h1];exact bV _,fun i x hx j b hb=>by
        obtain⟨p,hp,hq⟩:=h3 i x hx
        obtain⟨v,hv,hr⟩:=hq j b hb
        have hj:j<esz tg:=by rw[<-fj tg x];exact(bj.1 hb).1
        have:=ho4 i p hp j (by rw[F'.size,hsz];exact hj)
        rw[F'.size,hsz,eP]at this
        exact⟨v,by rw[this];exact hv,hr⟩⟩ (by omega) (by rw[hos];exact bV _)
       rw[h1]at hP
       exact⟨_,_,C',hrun,hP⟩
     ·cases h
    ·split at h
     ·rename_i l hl hel
      obtain⟨rfl,rfl⟩:=OpRes.ret.inj h
      simp only[ar,j4,lenN_eq]at hl
      obtain⟨rfl,hl2,hs1⟩:=hl
      have hl2:=i9 hl2
      obtain⟨h1,h2,h3⟩:=wI hA ps 0 l hel
      have hf0:¬C.used s.n:=by have:=hf 0 (by simp[lenN]);simpa using this
      have hsmall:¬ps.length*i'.size>2^24:=by rw[F'.size,hs1];omega
      have hw1:∀b∈l,b.width=1:=by
       intro b hb
       obtain⟨j,hj,rfl⟩:=jN hb
       obtain⟨p,_,v,_,hr⟩:=h3 j l[j] (co hj)
       exact hr.width
      have hgo:∀out:Array Value,out.size=ps.length->(∀(j:Nat) x,l[j]? =some x->∃v,out[j]? =some v/\VR C x v)->
        ∃C',Post1 B nt s C ⟨.vec s.n,[],[.rowA l]⟩ d (a.put d (.slice (some ⟨C.w.heap.size,0,none⟩) ps.length ps.length)) (C.w.alloc (.cells out e')) C':=by
       intro out ho1 ho2
       have hw:=kW C.w (.cells out e')
       refine⟨_,sy (lo:=some C.w.heap.size) hI hA hd hf0 hw (.inr ⟨rfl,by rw[ta];omega⟩) ?_ ?_⟩
       ·refine⟨C.w.heap.size,out,e',(0,0),by simp[Cx.push],nv _ _,by rw[ho1,gw l hw1,h1],CR.ext (oW hI hw hf0) fun j x hx=>?_,AU _⟩
        obtain⟨v,hv,hr⟩:=ho2 j x hx
        have hj:j<l.length:=(bj.1 hx).1
        rw[jU l hw1 j (by omega)]
        exact(ER.of_one hr.not_arr).2 ⟨v,hv,hr⟩
       ·refine⟨.inr rfl,⟨_,_,_,rfl⟩,?_⟩
        simp only[Cx.push,if_true]
        exact⟨_,rfl,by rw[h1]⟩
      by_cases hpos:ps.length=0
      ·have hps:ps=[]:=ly hpos
       subst hps
       obtain⟨C',hP⟩:=hgo #[] rfl (fun j x hx=>by
        have hl0:l=[]:=ly (by simpa using h1)
        subst hl0;simp at hx)
       refine⟨_,_,C',?_,hP⟩
       simp[Instr.buildSlice,F.run_und,F'.run_size,Instr.fill,newRow,Array.range_zero']
      ·have hpos':¬ps.length*i'.size=0:=by rw[F'.size,hs1];omega
       obtain⟨out,ho1,ho2,_,ho4⟩:=va i'.size (ps.map fun p=>(p.1,a.eval p.2)) 0 ((Array.range (ps.length*i'.size)).map (z.cells[· %z.cells.size]!))
        (fun j p hp=>by rw[F'.size,hs1];exact h2 j p hp) (by simp)
       have hrun:=run_buildSlice (P:=P) C.w t e' ps.length (ps.toArray.map fun(i,x)=>(i,a.eval x)) out i' z F.und F'.info hz hsmall hpos' (by simpa using ho1)
       obtain⟨C',hP⟩:=hgo out (by rw[ho2];simp[F'.size,hs1]) (fun j x hx=>by
        obtain⟨p,hp,v,hv,hr⟩:=h3 j x hx
        have:=ho4 j p hp 0 (by rw[F'.size,hs1];omega)
        rw[F'.size,hs1,eP,eB,iA]at this
        exact⟨v,by rw[this];exact hv,hr⟩)
       exact⟨_,_,C',hrun,hP⟩
     ·cases h
   ·cases h
  ·cases h
 ·cases h
theorem Ee (hT:TOK P T)(hI:Inv B s C){nt:Nat}{a:Act}(hA:AInv nt s C a){d:Option Tmp}(hd:∀i,d=some i->i<nt){t:TypeId}{al ac:AV}{vl vc:Value}(hl:TR C al vl)(hc:TR C ac vc){asks:List Bool}{e:Eff}
  (h:IT T s t al ac= .ret asks e) (ha:∀b∈asks,b=true) (hf:∀i,i<lenN e.new->¬C.used (s.n+i)):
  ∃x w' C',(Instr.makeSlice t vl vc).run P C.w= .ok x w'/\Post1 B nt s C e d (a.put d x) w' C':=by
 unfold IT at h
 split at h
 ·rename_i ti kl l kc c ht
  obtain⟨i,dd,F⟩:=hT.fact ht
  have hdd:=F.desc
  obtain rfl:vl= .int kl l:=hl
  obtain rfl:vc= .int kc c:=hc
  split at h
  ·rename_i e' hd'
   rw[hd']at hdd
   obtain rfl:=dx hdd
   split at h
   ·rename_i te hte
    obtain⟨i',d',F'⟩:=hT.fact hte
    split at h
    ·rename_i tg htg
     obtain⟨hsz,hby,z,hz,hzo⟩:=F'.tag tg htg
     obtain⟨rfl,rfl⟩:=OpRes.ret.inj h
     obtain⟨h0,h1⟩:=pH.1 (ha (inC l c) (by simp))
     have h2:c<=lim:=by have:=ha (D3 c) (by simp);simpa[D3]using this
     have hf0:¬C.used s.n:=by have:=hf 0 (by simp[lenN]);simpa using this
     unfold lim at h2
     have hbytes:(i'.bytes:Int)*c<=281474976710656:=by
      have h3:(i'.bytes:Int)<=256:=by rw[F'.bytes];omega
      have h4:(i'.bytes:Int)*c<=256*c:=Int.mul_le_mul_of_nonneg_right h3 (by omega)
      omega
     have hrun:=run_make (P:=P) C.w t e' i' z F.und F'.info hz kl kc l c h0 h1 hbytes (by omega)
     obtain⟨hz1,hz2⟩:=lS C _ _ hzo
     have hzl:z.cells.size=esz tg:=by rw[gw _ (jm _ _),fj]at hz1;simpa using hz1.symm
     have hw:=kW C.w (.cells (madeCells z.cells (c.toNat*i'.size)) e')
     have hlen:(wt l (aJ tg)).length=l.toNat:=by simp[wt]
     obtain⟨C',hP⟩:=sA (tg:=tg) (xs:=wt l (aJ tg)) (cap:=c.toNat) hI hA hd hf0 hw (nv _ _) (xG _ _) ⟨by
       rw[hlen,size_madeCells,F'.size,hsz];exact ed _ (by omega),fun k x hx j b hb=>by
       have hk:k<l.toNat:=by rw[<-hlen];exact(bj.1 hx).1
       have hx':x=aJ tg:=by have:=(bj.1 hx).2;rw[<-this];simp[wt]
       subst hx'
       have hj:j<esz tg:=by rw[<-fj tg (aJ tg)];exact(bj.1 hb).1
       have hkj:k*esz tg+j<c.toNat*i'.size:=by
        rw[F'.size,hsz]
        have:(k+1)*esz tg<=c.toNat*esz tg:=ed _ (by omega)
        rw[ci,jg]at this;omega
       rw[modOK _ (esz tg) hzl rfl hj hkj]
       have:=hz2 j b hb
       rw[jU _ (jm tg (aJ tg)) j (by rw[fj];omega)]at this
       obtain⟨v,hv,hr⟩:=(ER.of_one (kG tg (aJ tg) b (cw hb))).1 this
       exact⟨v,by simpa using hv,R1.of_VR (cw hb) hr⟩⟩ (by rw[hlen];omega) (by rw[size_madeCells,F'.size,hsz];exact bV _)
     rw[hlen]at hP
     exact⟨_,_,C',hrun,hP⟩
    ·cases h
   ·cases h
  ·cases h
 ·cases h
end
end Go.Den
namespace Go.Den
open Go.RowKit (Below)
section
variable {P:Program}{T:Tr TI}{B:Bs}{s:St}{C:Cx}
theorem yx (hT:TOK P T){e:TypeId}(h:Gf T e=true):P.underlying e=some (.int .u8):=by
 unfold Gf at h
 split at h
 ·rename_i te ht
  obtain⟨i,d,F⟩:=hT.fact ht
  have hd:=F.desc
  unfold isU8 at h
  split at h
  ·rename_i he
   rw[he]at hd
   obtain rfl:=xV hd
   exact F.und
  ·cases h
 ·cases h
theorem uW {c o:Nat}{xs:List Int}(h:∀(i:Nat) x,xs[i]? =some x->CR C (enc .u x) (fun k=>C.w.cell? ⟨c,o+i*esz .u+k,none⟩)):
  ∀i,i<xs.length->C.w.cell? ⟨c,o+i,none⟩=some (.int .u8 (xs.getD i 0)):=by
 intro i hi
 have hx:xs[i]? =some (xs.getD i 0):=by simp[List.getD,co hi]
 obtain⟨v,hv,hr⟩:=(ER.of_one (C:=C) (a:= .int .u8 (xs.getD i 0)) (by simp)).1 (h i _ hx).cons.1
 obtain rfl:v= .int .u8 (xs.getD i 0):=hr
 simpa[esz]using hv
theorem wH (w:World):Below w.heap.size w w.drew:=(Below.refl _ _).drew
theorem DU (hT:TOK P T)(hI:Inv B s C){nt:Nat}{a:Act}(hA:AInv nt s C a){d:Option Tmp}(hd:∀i,d=some i->i<nt){src dst:TypeId}{av:AV}{v:Value}(hv:TR C av v){asks:List Bool}{e:Eff}
  (h:DT T s src dst av= .ret asks e) (hf:∀i,i<lenN e.new->¬C.used (s.n+i)):
  ∃x w' C',(convert src dst v).run P C.w= .ok x w'/\Post1 B nt s C e d (a.put d x) w' C':=by
 unfold DT at h
 split at h
 ·rename_i ts td hts htd
  obtain⟨is,ds,Fs⟩:=hT.fact hts
  obtain⟨it,dt,Ft⟩:=hT.fact htd
  have hdd:=Ft.desc
  have hds:=Fs.desc
  split at h
  ·rename_i j k n hj
   rw[hj]at hdd
   obtain rfl:=xV hdd
   obtain rfl:v= .int k n:=hv
   obtain⟨rfl,rfl⟩:=bP h
   refine⟨.int j (an j n),C.w,C,?_,sC hI hA hd rfl⟩
   simp[convert,Fs.run_und,Ft.run_und,Conv.intToInt,an]
  ·rename_i l hj
   rw[hj]at hdd
   obtain rfl:=ml hdd
   obtain rfl:v= .string ⟨l.toArray⟩:=hv
   split at h
   ·rename_i hs
    rw[hs]at hds
    obtain rfl:=ml hds
    obtain⟨rfl,rfl⟩:=bP h
    refine⟨.string ⟨l.toArray⟩,C.w,C,?_,sC hI hA hd rfl⟩
    simp[convert,Fs.run_und,Ft.run_und]
   ·cases h
  ·rename_i xs hj
   rw[hj]at hdd
   obtain rfl:=ml hdd
   split at h
   ·rename_i e' hs
    rw[hs]at hds
    obtain rfl:=dx hds
    split at h
    ·rename_i hu
     have hu:=yx hT hu
     obtain⟨rfl,rfl⟩:=bP h
     obtain⟨ad,cap,rfl,hc,hr⟩:=(hv:nN _ _ _ .u xs v)
     refine⟨.string (strOfNums xs),C.w,C,?_,sC hI hA hd rfl⟩
     rcases hr with rfl|⟨c,o,rfl,hr⟩
     ·cases ad with
      |none=>rw[run_convert_bytes_nil C.w src e' Fs.und hu _ _ dst Ft.und];rfl
      |some p=>
       have hl:(loadCells p 0).run P C.w= .ok (([]:List Int).map (Value.int .u8)).toArray C.w:=by simp[loadCells,loadCellsFrom]
       have he:=run_bytesToString C.w p 0 cap [] hl
       have hc':=run_convert_bytes_string C.w src dst e' (some p) 0 cap Fs.und hu Ft.und
       exact hc'.trans he
     ·exact run_convert_bytes_arg C.w src e' Fs.und hu c o _ cap xs rfl (uW fun i x hx=>hr.elem hx) dst Ft.und
    ·cases h
   ·cases h
  ·rename_i b hj
   rw[hj]at hdd
   obtain rfl:=ml hdd
   split at h
   ·rename_i e' xs f hs hb
    rw[hs]at hds
    obtain rfl:=dx hds
    split at h
    ·rename_i hu
     have hu:=yx hT hu
     obtain⟨rfl,rfl⟩:=bP h
     obtain⟨hub,_,hv⟩:=(hv:VP C (.vec b) v)
     rw[hI.eqb,hb]at hv
     dsimp only at hv
     have hbl:BR C b (.row .u xs f):=by have:=hI.bl b;rwa [hb]at this
     refine⟨.string (strOfNums xs),C.w,C,?_,sC hI hA hd rfl⟩
     split at hv
     ·rename_i c hc
      obtain⟨cap,T',n',rfl,_,_,_⟩:=hv
      exact run_convert_bytes_arg C.w src e' Fs.und hu c 0 _ cap xs rfl (uW fun i x hx=>by simpa using v8 hbl hc hx) dst Ft.und
     ·obtain⟨rfl,rfl⟩:=hv
      rw[run_convert_bytes_nil C.w src e' Fs.und hu _ _ dst Ft.und];rfl
    ·cases h
   ·cases h
  ·rename_i e' l hj
   rw[hj]at hdd
   obtain rfl:=dx hdd
   obtain rfl:v= .string ⟨l.toArray⟩:=hv
   split at h
   ·rename_i hu hs
    rw[hs]at hds
    obtain rfl:=ml hds
    have hu:=yx hT hu
    obtain⟨rfl,rfl⟩:=OpRes.ret.inj h
    have hf0:¬C.used s.n:=by have:=hf 0 (by simp[lenN]);simpa using this
    have hrun:=run_bytes_of_string (P:=P) C.w src dst e' ⟨l.toArray⟩ Fs.und Ft.und hu
    have hcap:=grownCap_ge C.w (⟨l.toArray⟩:ByteArray).size 0 e'
    generalize hk:grownCap C.w (⟨l.toArray⟩:ByteArray).size 0 e'=cap at hrun hcap
    rw[nK]at hcap
    have hlen:(wB l).length=l.length:=by simp[wB]
    have hsz:(bytesRow ⟨l.toArray⟩ cap).size=cap:=by simp[bytesRow,nK];omega
    have hw:Below C.w.heap.size C.w (C.w.drew.alloc (.cells (bytesRow ⟨l.toArray⟩ cap) e' ((bytesRow ⟨l.toArray⟩ cap).size,(bytesRow ⟨l.toArray⟩ cap).size+1))):=
     (wH C.w).alloc (bV _) _
    obtain⟨C',hP⟩:=sA (tg:= .u) (xs:=wB l) (cap:=cap) hI hA hd hf0 hw (nv C.w.drew _) ⟨fun o ho h=>by omega,fun h=>by cases h⟩ ⟨by rw[hlen,hsz];simp[esz];exact hcap,fun i x hx j b hb=>by
     have hi:i<l.length:=by rw[<-hlen];exact(bj.1 hx).1
     have hx':x=(l[i].toNat:Int):=by
      have:=(bj.1 hx).2
      rw[<-this];simp[wB]
     subst hx'
     cases j with
     |zero=>
      simp[enc]at hb;subst hb
      refine⟨.int .u8 l[i].toNat,?_,.inl rfl⟩
      simp[bytesRow,esz,Array.getElem?_append,hi]
     |succ j=>simp[enc]at hb⟩ (by rw[hlen];exact hcap) (by rw[hsz];simp[esz])
    rw[hlen]at hP
    rw[nK]at hrun
    exact⟨_,_,C',hrun,hP⟩
   ·cases h
  ·cases h
 ·cases h
end
end Go.Den
namespace Go.Den
open Go.RowKit (Below)
def Cx.upd (C:Cx)(w':World)(b:Nat)(nb:Blk):Cx where
 w:=w'
 loc:=C.loc
 blk:=fun i=>if i=b then nb else C.blk i
 ok:=C.ok
 used:=C.used
theorem oQ {B:Bs}{s:St}{C:Cx}(hI:Inv B s C){b:Nat}(h:s.blk b≠ .gone):C.used b:=by
 by_cases u:C.used b
 ·exact u
 ·exact ah (hI.us b u).1 h
theorem lc {B:Bs}{s:St}{C:Cx}(hI:Inv B s C){b c:Nat}(h:C.loc b=some c):C.used b:=by
 by_cases u:C.used b
 ·exact u
 ·rw[(hI.us b u).2]at h;cases h
section
variable {P:Program}{T:Tr TI}{B:Bs}{s s':St}{C:Cx}
theorem Bv (hI:Inv B s C){b c:Nat}(hc:C.loc b=some c)(hw:wrt (s.blk b)=true){nb:Blk}{w':World}
  (hsz:w'.heap.size=C.w.heap.size) (hos:w'.os=C.w.os/\w'.tape=C.w.tape/\w'.output=C.w.output)
  (hot:∀k,k≠c->w'.heap[k]? =C.w.heap[k]?) (hsh:∀x,C.w.shape? c=some x->w'.shape? c=some x)
  (hbk:BK (s.blk b) nb True) (hwk:∀x,WK x (s.blk b)->WK x nb)
  (hwr:b<B.np->∀o,¬j7 B b o->w'.cell? ⟨c,o,none⟩=C.w.cell? ⟨c,o,none⟩)
  (hwr2:b<B.np->(∃o,j7 B b o)\/w'=C.w) (hnn:wrt nb=true)
  (hbr:Ext C (C.upd w' b nb)->BR (C.upd w' b nb) b nb)
  (hblk:∀i,s'.blk i=if i=b then nb else s.blk i) (hnp:s'.np=s.np) (hal:s'.al=s.al):Inv B s' (C.upd w' b nb)/\Ext C (C.upd w' b nb):=by
 have hng:s.blk b≠ .gone:=fun e=>by rw[e]at hw;cases hw
 have hnok:∀k,C.ok k->k≠c:=by rintro k hk rfl;exact(hI.okd k hk).2 b hw hc
 have hshp:∀k x,C.w.shape? k=some x->w'.shape? k=some x:=fun k x h=>by
  by_cases e:k=c
  ·subst e;exact hsh x h
  ·rw[<-h];exact tM (hot k e)
 have E:Ext C (C.upd w' b nb):=
  {loc:=fun _ _ h=>h
   used:=fun _ h=>h
   keep:=fun i hu=>by
    simp only[Cx.upd]
    by_cases e:i=b
    ·subst e;simp only[if_true];rw[hI.eqb];simpa using hbk
    ·simp only[e,if_false];exact BK.refl _ trivial
   cell:=fun k o v hk hv=>by rw[<-hv];exact m6 (hot k (hnok k hk))
   ok:=fun _ h=>h
   shape:=hshp}
 refine⟨?_,E⟩
 have hngi:∀i,s'.blk i≠ .gone->s.blk i≠ .gone:=fun i h=>by
  by_cases e:i=b
  ·subst e;exact hng
  ·rw[hblk,ae e]at h;exact h
 refine {eqb:=fun i=>?_,bl:=fun i=>?_,inj:=fun i j k hi hj h1 h2=>hI.inj i j k (hngi i hi) (hngi j hj) h1 h2,lt:=fun i k h=>by show k<w'.heap.size;rw[hsz];exact hI.lt i k h,us:=fun i hu=>?_,okd:=fun k hk=>?_,okS:=fun k hk=>?_,own:=fun i k hi h=>hI.own i k (hngi i hi) h,lt0:=hI.lt0,inj0:=hI.inj0,pas:=hI.pas,pus:=hI.pus,frm:=?_,prt:=fun i hi k hk o hm=>?_,prt2:=fun i hi k hk hm=>?_,stay:=fun i hi hm=>?_,shp:=fun k x hx=>hshp k x (hI.shp k x hx),wid:=fun i hi=>?_,npn:=hnp.trans hI.npn,all:=hal.trans hI.all}
 ·rw[hblk,<-hI.eqb];rfl
 ·rw[hblk]
  by_cases e:i=b
  ·subst e;rw[aa rfl];exact hbr E
  ·rw[ae e]
   by_cases g:s.blk i= .gone
   ·rw[g];trivial
   ·exact(hI.bl i).ext E rfl fun k hk=>hot k (by rintro rfl;exact e (hI.inj i b k g hng hk hc))
 ·have:=hI.us i hu
  rw[hblk]
  by_cases e:i=b
  ·subst e;exact ah this.1 hng
  ·rw[ae e];exact this
 ·obtain⟨h1,h2⟩:=hI.okd k hk
  refine⟨by show k<w'.heap.size;rw[hsz];exact h1,fun i hi h=>?_⟩
  by_cases e:i=b
  ·subst e;exact h2 i hw h
  ·rw[hblk,ae e]at hi;exact h2 i hi h
 ·rcases hI.okS k hk with h|h|⟨i,h1,h2,h3,h4⟩
  ·exact .inl h
  ·exact .inr (.inl h)
  ·refine .inr (.inr ⟨i,h1,h2,?_,h4⟩)
   rw[hblk]
   by_cases e:i=b
   ·rw[e]at h3;rw[h3]at hw;cases hw
   ·rw[ae e];exact h3
 ·refine⟨hI.frm.1.trans ⟨hos.1,hos.2.1,hos.2.2,by show C.w.heap.size<=w'.heap.size;omega,fun k hk=>ah hk (cN _)⟩,fun k hk h=>?_⟩
  rw[<-hI.frm.2 k hk h]
  refine hot k ?_
  rintro rfl
  rcases hI.own b k hng hc with ⟨i,hi,hl,_⟩|h'
  ·exact h i hi hl
  ·omega
 ·by_cases e:k=c
  ·subst e
   rw[<-hI.prt i hi k hk o hm]
   rcases hI.own b k hng hc with ⟨j,hj,hl,hjb⟩|h'
   ·obtain rfl:=hI.inj0 i j k hi hj hk hl
    rcases hjb with rfl|h'
    ·exact hwr hi o hm
    ·exact ah (h' o) hm
   ·exact ah (hI.lt0 i k hi hk) (by omega)
  ·rw[<-hI.prt i hi k hk o hm];exact m6 (hot k e)
 ·by_cases e:k=c
  ·subst e
   rw[<-hI.prt2 i hi k hk hm]
   rcases hI.own b k hng hc with ⟨j,hj,hl,hjb⟩|h'
   ·obtain rfl:=hI.inj0 i j k hi hj hk hl
    rcases hjb with rfl|h'
    ·rcases hwr2 hi with ⟨o,ho⟩|rfl
     ·exact ah ho (hm o)
     ·rfl
    ·exact ah (h' 0) (hm 0)
   ·exact ah (hI.lt0 i k hi hk) (by omega)
  ·rw[<-hI.prt2 i hi k hk hm];exact hot k e
 ·rw[hblk]
  by_cases e:i=b
  ·rw[aa e];exact⟨fun _ g=>(by rw[g]at hnn;cases hnn),fun _=>hnn⟩
  ·rw[ae e];exact hI.stay i hi hm
 ·rw[hblk]
  by_cases e:i=b
  ·subst e;rw[aa rfl];exact hwk _ (hI.wid i hi)
  ·rw[ae e];exact hI.wid i hi
end
end Go.Den
namespace Go.Den
open Go.RowKit (Below)
theorem zJ {w:World}{c o:Nat}{arr:Array Value}{T:TypeId}{fr:Nat×Nat}(h:w.heap[c]? =some (.cells arr T fr))(v:Value):
  (w.setCell ⟨c,o,none⟩ v).heap[c]? =some (.cells (arr.setIfInBounds o v) T fr):=by
 simp only[World.setCell,Array.getElem?_modify,h]
 simp
theorem vg {w:World}{c o k:Nat}(h:k≠c)(v:Value):(w.setCell ⟨c,o,none⟩ v).heap[k]? =w.heap[k]? :=by
 simp only[World.setCell,Array.getElem?_modify]
 simp[Ne.symm h]
theorem jo {c:Nat}{T:TypeId}{fr:Nat×Nat}:∀(vs:List Value) (o:Nat) (w:World) (arr:Array Value),w.heap[c]? =some (.cells arr T fr)->
  ∃arr',(w.setCells c o vs).heap[c]? =some (.cells arr' T fr)/\arr'.size=arr.size/\(∀k,k<o\/o+vs.length<=k->arr'[k]? =arr[k]?)/\(∀j,o+j<arr.size->j<vs.length->arr'[o+j]? =vs[j]?)
 |[],o,w,arr,h=>⟨arr,h,rfl,fun _ _=>rfl,fun j _ hj=>ah hj (cN _)⟩
 |v::r,o,w,arr,h=>by
  obtain⟨arr',h1,h2,h3,h4⟩:=jo r (o+1) _ _ (zJ (o:=o) h v)
  refine⟨arr',h1,by rw[h2];simp,fun k hk=>?_,fun j hj hl=>?_⟩
  ·simp only[fa]at hk
   rw[h3 k (by omega),sO (by omega)]
  ·cases j with
   |zero=>rw[iA,h3 o (.inl (by omega))];simp[show o<arr.size by omega]
   |succ j=>rw[show o+(j+1)=o+1+j by omega];simpa using h4 j (by simp;omega) (by simpa using hl)
theorem k6 {c k:Nat}(h:k≠c):∀(vs:List Value) (o:Nat) (w:World),(w.setCells c o vs).heap[k]? =w.heap[k]?
 |[],_,_=>rfl
 |v::r,o,_=>(k6 h r (o+1) _).trans (vg h v)
theorem jt {c:Nat}:∀(vs:List Value) (o:Nat) (w:World),(w.setCells c o vs).heap.size=w.heap.size/\(w.setCells c o vs).os=w.os/\(w.setCells c o vs).tape=w.tape/\(w.setCells c o vs).output=w.output
 |[],_,_=>⟨rfl,rfl,rfl,rfl⟩
 |v::r,o,w=>by
  obtain⟨h1,h2,h3,h4⟩:=jt r (o+1) (w.setCell ⟨c,o,none⟩ v) (c:=c)
  exact⟨by rw[World.setCells,h1];simp[World.setCell],by rw[World.setCells,h2];rfl,by rw[World.setCells,h3];rfl,by rw[World.setCells,h4];rfl⟩
section
variable {P:Program}{T:Tr TI}{B:Bs}{s:St}{C:Cx}
theorem VR.oneCell {a:AV}{v:Value}(h:VR C a v)(ha:a≠ .dead):v.oneCell'=true:=by
 have:=h.one ha
 cases a with
 |func=>obtain⟨_,_,rfl,_⟩:=h;rfl
 |dead=>exact ah rfl ha
 |anyb=>obtain⟨_,rfl,_⟩:=h;rfl
 |bool=>cases h;rfl
 |int=>cases h;rfl
 |str=>cases h;rfl
 |nilp=>cases h;rfl
 |ptr=>obtain⟨_,_,rfl⟩:=h;rfl
 |ptrI=>obtain⟨_,_,_,_,rfl⟩:=h;rfl
 |ptrE=>obtain⟨_,_,_,_,rfl,_⟩:=h;rfl
 |ptrL=>obtain⟨_,_,_,_,_,rfl⟩:=h;rfl
 |nils=>cases h;rfl
 |list=>obtain⟨_,_,rfl,_⟩:=h;rfl
 |vec=>obtain⟨_,⟨_,_,_,rfl⟩,_⟩:=h;rfl
 |pre=>obtain⟨_,⟨_,_,_,rfl⟩,_⟩:=h;rfl
 |suf=>obtain⟨_,⟨_,_,_,rfl⟩,_⟩:=h;rfl
 |nilf=>cases h;rfl
 |err b=>cases b with
  |true=>cases h;rfl
  |false=>obtain⟨_,_,rfl⟩:=h;rfl
 |mapr=>obtain⟨_,_,rfl⟩:=h;rfl
 |arr=>exact h.elim
 |agg=>exact h.elim
 |tup=>exact h.elim
theorem Gr {a:AV}{r:List AV}(h:IN (a::r)=true):a≠ .dead/\IN r=true:=by
 cases a<;>simp[IN]at h|- <;>exact h
theorem CR.oneCell:∀ {cs:List AV} {g:Nat->Option Value},CR C cs g->IN cs=true->∀o v,o<bw cs->g o=some v->v.oneCell'=true
 |[],_,_,_,o,_,h,_=>ah h (cN _)
 |a::r,g,hc,hl,o,v,ho,hv=>by
  obtain⟨h1,h2⟩:=hc.cons
  obtain⟨l1,l2⟩:=Gr hl
  by_cases e:o<a.width
  ·cases a with
   |arr t n xs=>
    obtain⟨u,en,hu,_,hs⟩:=h1 o e
    rw[eP,hv]at hu
    obtain rfl:=aw hu
    cases en<;>simp[AA]at hs<;>subst hs<;>rfl
   |_=>
    obtain⟨u,hu,hr⟩:=h1
    simp only[AV.width]at e
    obtain rfl:o=0:=by omega
    rw[hv]at hu
    obtain rfl:=aw hu
    exact hr.oneCell l1
  ·simp only[bw]at ho
   refine CR.oneCell h2 l2 (o-a.width) v (by omega) ?_
   rw[show a.width+(o-a.width)=o by omega];exact hv
theorem rT {t:TypeId}{ti:TI}{i:TypeInfo}{d:TypeDesc}(F:TyF P t ti i d){w:World}{c o:Nat}{v:Value}(hs:v.cells.size=ti.size)
  (h1:∀u∈v.cells.toList,u.oneCell'=true) {arr:Array Value} {e:TypeId} {fr:Nat×Nat} (hh:w.heap[c]? =some (.cells arr e fr)) (hn:NF arr fr) (hb:o+ti.size<=arr.size):
  (Instr.storeAt t (.pointer (some ⟨c,o,none⟩)) v).run P w= .ok () (w.setCells c o v.cells.toList):=by
 have:=run_storeCells_cells (P:=P) c o v.cells.toList 0 w (fun j hj=>by
  simp at hj
  simp[World.cell?,hh];omega) (fun j hj=>by
  simp at hj
  have:=hn (o+j) (by omega)
  simp[World.frozen?,hh]
  omega) h1
 simp only[iA]at this
 simp[Instr.storeAt,Instr.sureAddr,storeVar,F.run_size,hs,this]
theorem qa:∀ {x y:List AV},yV x y=true->x.map AV.width=y.map AV.width
 |[],[],_=>rfl
 |[],_::_,h=>by cases h
 |_::_,[],h=>by cases h
 |a::x,b::y,h=>by
  simp only[yV]at h
  split at h
  ·rename_i e
   simp only[jQ,j4.1 e,qa h]
  ·cases h
theorem iI:∀ {x y:List AV},x.map AV.width=y.map AV.width->bw x=bw y
 |[],[],_=>rfl
 |[],_::_,h=>by cases h
 |_::_,[],h=>by cases h
 |a::x,b::y,h=>by
  obtain⟨h1,h2⟩:=List.cons.inj h
  simp only[bw,h1,iI h2]
def ng:List AV->Nat->List AV->List AV
 |cs,_,[]=>cs
 |cs,i,a::r=>ng (setN cs i a) (i+1) r
theorem tL:∀(r cs:List AV) (i:Nat),i+r.length<=cs.length->ng cs i r=cs.take i++(r++cs.drop (i+r.length))
 |[],cs,i,_=>by simp[ng]
 |a::r,cs,i,h=>by
  simp only[fa]at h
  rw[ng,tL r _ _ (by rw[setN_eq];simp;omega),setN_eq]
  rw[List.take_set,List.drop_set_of_lt (by omega)]
  have hi:i<cs.length:=by omega
  have e:cs.take (i+1)=cs.take i++[cs[i]]:=by simp
  have e':(cs.take i).length=i:=by simp;omega
  have:(cs.take i++[cs[i]]).set i a=cs.take i++[a]:=by
   rw[sV _ _ (by omega),e'];simp
  rw[e,this,show i+(a::r).length=i+1+r.length by simp;omega]
  simp
theorem rF (mk:List AV->Blk)(hmk:mk= .var\/mk= .rowA){b:Nat}:∀(r:List AV) (i:Nat) (h:List (Nat×Blk)) (cs:List AV),look h b=some (mk cs)->∀k,
  look (cF (wd b i r) h) k=if k=b then some (mk (ng cs i r))else look h k
 |[],i,h,cs,hb,k=>by
  simp only[wd,cF,ng]
  by_cases e:k=b
  ·subst e;rw[aa rfl,hb]
  ·rw[ae e]
 |a::r,i,h,cs,hb,k=>by
  simp only[wd,cF,ng,hb]
  have hm:(WU.set i a).app (mk cs)=mk (setN cs i a):=by rcases hmk with rfl|rfl<;>rfl
  rw[hm,rF mk hmk r (i+1) _ (setN cs i a) (by rw[look_cons,aa rfl]) k]
  by_cases e:k=b
  ·rw[aa e,aa e]
  ·rw[ae e,ae e,look_cons,ae (fun g=>e g.symm)]
theorem rN {b:Nat}(h:s.blk b≠ .gone):look s.h b=some (s.blk b):=by
 unfold St.blk at h|-
 cases hl:look s.h b with
 |none=>rw[hl]at h;exact ah rfl h
 |some x=>rfl
theorem sB {nt:Nat}{a:Act}{d:Option Tmp}{x:Value}{b c:Nat}{nb:Blk}{w':World}{u:List (Nat×WU)}(hI:Inv B s C)(hA:AInv nt s C a)(hd:∀i,d=some i->i<nt)(hc:C.loc b=some c)(hw:wrt (s.blk b)=true)
  (hsz:w'.heap.size=C.w.heap.size) (hos:w'.os=C.w.os/\w'.tape=C.w.tape/\w'.output=C.w.output)
  (hot:∀k,k≠c->w'.heap[k]? =C.w.heap[k]?) (hsh:∀x,C.w.shape? c=some x->w'.shape? c=some x)
  (hbk:BK (s.blk b) nb True) (hwk:∀x,WK x (s.blk b)->WK x nb)
  (hwr:b<B.np->∀o,¬j7 B b o->w'.cell? ⟨c,o,none⟩=C.w.cell? ⟨c,o,none⟩)
  (hwr2:b<B.np->(∃o,j7 B b o)\/w'=C.w) (hnn:wrt nb=true)
  (hbr:Ext C (C.upd w' b nb)->BR (C.upd w' b nb) b nb)
  (hu:∀k,look (cF u s.h) k=if k=b then some nb else look s.h k) (hne:u≠[]):Post1 B nt s C ⟨.dead,u,[]⟩ d (a.put d x) w' (C.upd w' b nb):=by
 have hblk:∀i,(s.apply d ⟨.dead,u,[]⟩).blk i=if i=b then nb else s.blk i:=fun i=>by
  simp only[St.apply,gV]
  simp only[St.blk,iM,hu]
  by_cases e:i=b
  ·rw[aa e,aa e]
  ·rw[ae e,ae e]
 obtain⟨h1,h2⟩:=Bv (s':=s.apply d ⟨.dead,u,[]⟩) hI hc hw hsz hos hot hsh hbk hwk hwr hwr2 hnn hbr hblk (mh _ _ _) (mf _ _ _)
 exact {w:=rfl,inv:=h1,ain:=th hA h2 hd trivial,ext:=h2,use:=fun i=>by
         simp only[Cx.upd,lenN]
         exact⟨.inl,fun h=>h.elim id fun g=>ah g.2 (by omega)⟩
        quiet:=fun h=>ah h hne}
theorem tb {b lo hi:Nat}(hI:Inv B s C)(h:allowed s b lo hi=true)(hb:b<B.np):∃l h',(b,l,h')∈B.wr/\l<=lo/\hi<=h':=by
 unfold allowed at h
 rw[hI.npn,hI.all]at h
 split at h
 ·rename_i e
  have:Nat.blt b B.np=true:=by rw[gO];exact hb
  rw[this]at e;cases e
 ·obtain⟨⟨c,l,h'⟩,hm,hp⟩:=List.any_eq_true.1 h
  simp only[ar]at hp
  obtain⟨e,h1,h2⟩:=hp
  obtain rfl:=j4.1 e
  exact⟨l,h',hm,i9 h1,i9 h2⟩
theorem dH {b:Nat}(hI:Inv B s C)(h:allowed s b 0 big=true)(hb:b<B.np):∀o,j7 B b o:=fun o=>by
 obtain⟨l,h',hm,h1,h2⟩:=tb hI h hb
 exact⟨l,h',hm,.inl ⟨by omega,h2⟩⟩
end
end Go.Den
