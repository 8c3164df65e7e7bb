/- Theory for the proofs of this claim: see its last text. -/
import Derived.Test.YtgpplhdmdndffaaGreatDenG
import Derived.ChangeArms
import Derived.ChangeShapes
import Derived.WideShapes
import Derived.ChangeMaps5
import Derived.DataReads
import Derived.OpenShut
import Derived.Below
import Derived.Carry
import Derived.ChangeOld
import Derived.Test.YtgpplhdmdndffaaGreatDenA
import Derived.Lib.LaidTab
import Derived.Sort.Grow
import Derived.Deep.Draws
import Derived.HandedShaped
import Derived.Shelf.Vars
import Derived.Lib.Split
import Derived.Lib.ConvBytes
import Derived.Lib.UnsafeStr
set_option linter.unusedSimpArgs false
namespace Go.Den
def DC:Tag->List VT
 | .i=>[.int .i64]
 | .u=>[.int .u8]
 | .b=>[.bool]
 | .s=>[.str]
 | .page=>[.int .i64,.int .i64,.str]
 | .ins=>[.int .i64,.int .i64,.int .i64,.int .i64,.int .i64,.int .i64,.int .i64,.int .i64,.int .i64,.int .i64,.int .i64,.int .i64,.int .i64,.int .i64,.int .i64,.int .i64,.int .i64,.int .i64,.int .i64]
 | .acc=>[.int .i64,.int .i64,.int .i64,.int .i64]
 | .seg=>[.int .i64,.int .i64,.int .i64,.str]
 | .stm=>[.int .i64,.int .i64,.int .i64,.int .i64]
 | .itm=>[.int .i64,.int .i64,.int .i64,.int .i64,.int .i64,.int .i64,.int .i64,.int .i64,.int .i64,.int .i64,.int .i64,.int .i64,.int .i64,.int .i64,.int .i64,.int .i64,.int .i64,.int .i64,.int .i64,.int .i64]
 | .brc=>[.int .i64,.int .i64]
 | .grp=>[.list .ins,.int .i64,.bool,.bool]
def fitV (q:(t:Tag)->El t->Prop):VT->AV->Prop
 | .bool,a=>∃b,a= .bool b
 | .int k,a=>∃n,a= .int k n/\(Lit.int k n).wf=true
 | .str,a=>∃s,a= .str s/\s.length<=maxLen
 | .list t,a=>∃xs,a= .list t xs/\xs.length<=maxLen/\∀x∈xs,q t x
 | .arr t n,a=>∃xs:List (El t),a= .arr t n xs/\xs.length=n/\∀x∈xs,q t x
 |_,_=>False
def yj (q:(t:Tag)->El t->Prop):List VT->List AV->Prop
 |[],[]=>True
 |t::l,a::as=>fitV q t a/\yj q l as
 |_,_=>False
def DY (t:Tag)(x:El t):Prop:=yj (fun _ _=>False) (DC t) (enc t x)
def zr (f:TypeId->List VT->Option (List VT))(T:Tr TI):Nat->List (Nat×TypeId)->List VT->Option (List VT)
 |_,[],l=>some l
 |o,(p,t)::r,l=>match Nat.beq o p,T.get t,f t l with
  |true,some ti,some l'=>zr f T (o+ti.size) r l'
  |_,_,_=>none
def wT (T:Tr TI):List (Nat×TypeId)->Nat
 |[]=>0
 |(_,t)::r=>(match T.get t with|some ti=>ti.size|none=>0)+wT T r
def noGrp:Tag->Bool
 | .grp=>false
 |_=>true
def tn (T:Tr TI):Nat->TypeId->List VT->Option (List VT)
 |0,_,_=>none
 |n+1,t,l=>match T.get t with
  |none=>none
  |some ti=>match ti.d,l with
   | .bool,.bool::r=>some r
   | .int k,.int j::r=>match pK k j with
    |true=>some r
    |false=>none
   | .str,.str::r=>some r
   | .slice e,.list tg::r=>match T.get e with
    |some te=>match Nat.beq te.size (esz tg)&&noGrp tg,tn T n e (DC tg)with
     |true,some []=>some r
     |_,_=>none
    |none=>none
   | .array m e,.arr .i j::r=>match Nat.beq m j&&Nat.beq m ti.size,T.get e with
    |true,some te=>match te.d,Nat.beq te.size 1 with
     | .int .i64,true=>some r
     |_,_=>none
    |_,_=>none
   | .struct fs,l=>match zr (tn T n) T 0 fs l with
    |some r=>match Nat.beq (wT T fs) ti.size with
     |true=>some r
     |false=>none
    |none=>none
   |_,_=>none
theorem iB {q:(t:Tag)->El t->Prop}{t:VT}{l:List VT}:∀ {as:List AV},yj q (t::l) as->∃a r,as=a::r
 |[],h=>h.elim
 |a::r,_=>⟨a,r,rfl⟩
theorem jX {q:(t:Tag)->El t->Prop}:∀ {as:List AV},yj q [] as->as=[]
 |[],_=>rfl
 |_::_,h=>h.elim
theorem vd {q:(t:Tag)->El t->Prop}:∀ {l m:List VT} {as bs:List AV},yj q l as->yj q m bs->yj q (l++m) (as++bs)
 |[],_,[],_,_,h=>h
 |[],_,_::_,_,h,_=>h.elim
 |_::_,_,[],_,h,_=>h.elim
 |_::_,_,_::_,_,h,k=>⟨h.1,vd h.2 k⟩
theorem eE {q:(t:Tag)->El t->Prop}{k:IntKind}{l:List VT}{as:List AV}(h:yj q (.int k::l) as):∃n r,as= .int k n::r/\(Lit.int k n).wf=true/\yj q l r:=by
 obtain⟨a,r,rfl⟩:=iB h
 obtain⟨⟨x,rfl,w⟩,h⟩:=h
 exact⟨x,r,rfl,w,h⟩
theorem fit_s {q:(t:Tag)->El t->Prop}{l:List VT}{as:List AV}(h:yj q (.str::l) as):∃n r,as= .str n::r/\n.length<=maxLen/\yj q l r:=by
 obtain⟨a,r,rfl⟩:=iB h
 obtain⟨⟨x,rfl,w⟩,h⟩:=h
 exact⟨x,r,rfl,w,h⟩
theorem fit_b {q:(t:Tag)->El t->Prop}{l:List VT}{as:List AV}(h:yj q (.bool::l) as):∃n r,as= .bool n::r/\yj q l r:=by
 obtain⟨a,r,rfl⟩:=iB h
 obtain⟨⟨x,rfl⟩,h⟩:=h
 exact⟨x,r,rfl,h⟩
theorem Kf:∀(t:Tag),t≠ .grp->∀(as:List AV),yj DY (DC t) as->∃x:El t,enc t x=as/\DY t x
 | .i,_,as,h=>by
  obtain⟨x0,s0,rfl,w0,h⟩:=eE h
  obtain rfl:=jX h
  exact⟨(x0:El .i),rfl,⟨x0,rfl,w0⟩,trivial⟩
 | .u,_,as,h=>by
  obtain⟨x0,s0,rfl,w0,h⟩:=eE h
  obtain rfl:=jX h
  exact⟨(x0:El .u),rfl,⟨x0,rfl,w0⟩,trivial⟩
 | .b,_,as,h=>by
  obtain⟨x0,s0,rfl,e⟩:=fit_b h
  obtain rfl:=jX e
  exact⟨(x0:El .b),rfl,⟨x0,rfl⟩,trivial⟩
 | .s,_,as,h=>by
  obtain⟨x0,s0,rfl,w0,h⟩:=fit_s h
  obtain rfl:=jX h
  exact⟨(x0:El .s),rfl,⟨x0,rfl,w0⟩,trivial⟩
 | .page,_,as,h=>by
  obtain⟨x0,s0,rfl,w0,h⟩:=eE h
  obtain⟨x1,s1,rfl,w1,h⟩:=eE h
  obtain⟨x2,s2,rfl,w2,h⟩:=fit_s h
  obtain rfl:=jX h
  exact⟨(⟨x0,x1,x2⟩:El .page),rfl,⟨x0,rfl,w0⟩,⟨x1,rfl,w1⟩,⟨x2,rfl,w2⟩,trivial⟩
 | .ins,_,as,h=>by
  obtain⟨x0,s0,rfl,w0,h⟩:=eE h
  obtain⟨x1,s1,rfl,w1,h⟩:=eE h
  obtain⟨x2,s2,rfl,w2,h⟩:=eE h
  obtain⟨x3,s3,rfl,w3,h⟩:=eE h
  obtain⟨x4,s4,rfl,w4,h⟩:=eE h
  obtain⟨x5,s5,rfl,w5,h⟩:=eE h
  obtain⟨x6,s6,rfl,w6,h⟩:=eE h
  obtain⟨x7,s7,rfl,w7,h⟩:=eE h
  obtain⟨x8,s8,rfl,w8,h⟩:=eE h
  obtain⟨x9,s9,rfl,w9,h⟩:=eE h
  obtain⟨x10,s10,rfl,w10,h⟩:=eE h
  obtain⟨x11,s11,rfl,w11,h⟩:=eE h
  obtain⟨x12,s12,rfl,w12,h⟩:=eE h
  obtain⟨x13,s13,rfl,w13,h⟩:=eE h
  obtain⟨x14,s14,rfl,w14,h⟩:=eE h
  obtain⟨x15,s15,rfl,w15,h⟩:=eE h
  obtain⟨x16,s16,rfl,w16,h⟩:=eE h
  obtain⟨x17,s17,rfl,w17,h⟩:=eE h
  obtain⟨x18,s18,rfl,w18,h⟩:=eE h
  obtain rfl:=jX h
  exact⟨(⟨x0,x1,x2,x3,⟨x4,x5,x6,x7,x8,x9,x10⟩,⟨x11,x12,x13,x14,x15,x16,x17⟩,x18⟩:El .ins),rfl,⟨x0,rfl,w0⟩,⟨x1,rfl,w1⟩,⟨x2,rfl,w2⟩,⟨x3,rfl,w3⟩,⟨x4,rfl,w4⟩,⟨x5,rfl,w5⟩,⟨x6,rfl,w6⟩,⟨x7,rfl,w7⟩,⟨x8,rfl,w8⟩,⟨x9,rfl,w9⟩,⟨x10,rfl,w10⟩,⟨x11,rfl,w11⟩,⟨x12,rfl,w12⟩,⟨x13,rfl,w13⟩,⟨x14,rfl,w14⟩,⟨x15,rfl,w15⟩,⟨x16,rfl,w16⟩,⟨x17,rfl,w17⟩,⟨x18,rfl,w18⟩,trivial⟩
 | .acc,_,as,h=>by
  obtain⟨x0,s0,rfl,w0,h⟩:=eE h
  obtain⟨x1,s1,rfl,w1,h⟩:=eE h
  obtain⟨x2,s2,rfl,w2,h⟩:=eE h
  obtain⟨x3,s3,rfl,w3,h⟩:=eE h
  obtain rfl:=jX h
  exact⟨(⟨x0,x1,x2,x3⟩:El .acc),rfl,⟨x0,rfl,w0⟩,⟨x1,rfl,w1⟩,⟨x2,rfl,w2⟩,⟨x3,rfl,w3⟩,trivial⟩
 | .seg,_,as,h=>by
  obtain⟨x0,s0,rfl,w0,h⟩:=eE h
  obtain⟨x1,s1,rfl,w1,h⟩:=eE h
  obtain⟨x2,s2,rfl,w2,h⟩:=eE h
  obtain⟨x3,s3,rfl,w3,h⟩:=fit_s h
  obtain rfl:=jX h
  exact⟨(⟨x0,x1,x2,x3⟩:El .seg),rfl,⟨x0,rfl,w0⟩,⟨x1,rfl,w1⟩,⟨x2,rfl,w2⟩,⟨x3,rfl,w3⟩,trivial⟩
 | .stm,_,as,h=>by
  obtain⟨x0,s0,rfl,w0,h⟩:=eE h
  obtain⟨x1,s1,rfl,w1,h⟩:=eE h
  obtain⟨x2,s2,rfl,w2,h⟩:=eE h
  obtain⟨x3,s3,rfl,w3,h⟩:=eE h
  obtain rfl:=jX h
  exact⟨(⟨x0,x1,x2,x3⟩:El .stm),rfl,⟨x0,rfl,w0⟩,⟨x1,rfl,w1⟩,⟨x2,rfl,w2⟩,⟨x3,rfl,w3⟩,trivial⟩
 | .itm,_,as,h=>by
  obtain⟨x0,s0,rfl,w0,h⟩:=eE h
  obtain⟨x1,s1,rfl,w1,h⟩:=eE h
  obtain⟨x2,s2,rfl,w2,h⟩:=eE h
  obtain⟨x3,s3,rfl,w3,h⟩:=eE h
  obtain⟨x4,s4,rfl,w4,h⟩:=eE h
  obtain⟨x5,s5,rfl,w5,h⟩:=eE h
  obtain⟨x6,s6,rfl,w6,h⟩:=eE h
  obtain⟨x7,s7,rfl,w7,h⟩:=eE h
  obtain⟨x8,s8,rfl,w8,h⟩:=eE h
  obtain⟨x9,s9,rfl,w9,h⟩:=eE h
  obtain⟨x10,s10,rfl,w10,h⟩:=eE h
  obtain⟨x11,s11,rfl,w11,h⟩:=eE h
  obtain⟨x12,s12,rfl,w12,h⟩:=eE h
  obtain⟨x13,s13,rfl,w13,h⟩:=eE h
  obtain⟨x14,s14,rfl,w14,h⟩:=eE h
  obtain⟨x15,s15,rfl,w15,h⟩:=eE h
  obtain⟨x16,s16,rfl,w16,h⟩:=eE h
  obtain⟨x17,s17,rfl,w17,h⟩:=eE h
  obtain⟨x18,s18,rfl,w18,h⟩:=eE h
  obtain⟨x19,s19,rfl,w19,h⟩:=eE h
  obtain rfl:=jX h
  exact⟨(⟨x0,⟨x1,x2,x3,x4,⟨x5,x6,x7,x8,x9,x10,x11⟩,⟨x12,x13,x14,x15,x16,x17,x18⟩,x19⟩⟩:El .itm),rfl,⟨x0,rfl,w0⟩,⟨x1,rfl,w1⟩,⟨x2,rfl,w2⟩,⟨x3,rfl,w3⟩,⟨x4,rfl,w4⟩,⟨x5,rfl,w5⟩,⟨x6,rfl,w6⟩,⟨x7,rfl,w7⟩,⟨x8,rfl,w8⟩,⟨x9,rfl,w9⟩,⟨x10,rfl,w10⟩,⟨x11,rfl,w11⟩,⟨x12,rfl,w12⟩,⟨x13,rfl,w13⟩,⟨x14,rfl,w14⟩,⟨x15,rfl,w15⟩,⟨x16,rfl,w16⟩,⟨x17,rfl,w17⟩,⟨x18,rfl,w18⟩,⟨x19,rfl,w19⟩,trivial⟩
 | .brc,_,as,h=>by
  obtain⟨x0,s0,rfl,w0,h⟩:=eE h
  obtain⟨x1,s1,rfl,w1,h⟩:=eE h
  obtain rfl:=jX h
  exact⟨(⟨x0,x1⟩:El .brc),rfl,⟨x0,rfl,w0⟩,⟨x1,rfl,w1⟩,trivial⟩
 | .grp,hg,_,_=>ah rfl hg
section
variable {P:Program}{T:Tr TI}{C:Cx}{H:Type}{enc':TypeId×Value->H}
theorem lH (hT:TOK P T){t:TypeId}{ti:TI}(ht:T.get t=some ti):P.cellsOf t=ti.size:=by
 obtain⟨i,d,F⟩:=hT.fact ht
 have:=F.size
 have hi:=F.info
 simp[Program.cellsOf,hi,this]
theorem GL (cs:List AV):lL cs 0=0:=by cases cs<;>rfl
theorem CR.one {a:AV}{g:Nat->Option Value}(h:ER C a g 0):CR C [a] g:=CR.mk h fun i a ha=>by simp at ha
theorem FW (hT:TOK P T){f:TypeId->List VT->Option (List VT)}{cs:List Value}{m:Nat}
  (hf:∀t l r us,f t l=some r->(∃x,DataW.trod enc' P C.w 0 (fun _=>true) true m t us=some x)->∃(l1:List VT) (as:List AV),l=l1++r/\yj DY l1 as/\bw as=us.length/\CR C as (fun o=>us[o]?)):
  ∀(fs:List (Nat×TypeId)) (gs:List Field) (o:Nat) (l r:List VT),eJ.fieldsOK fs gs=true->zr f T o fs l=some r->o+wT T fs<=cs.length->
   (∀g∈gs,∃x,DataW.trod enc' P C.w 0 (fun _=>true) true m g.type ((cs.drop g.offset).take (P.cellsOf g.type))=some x)->
   ∃(l1:List VT) (as:List AV),l=l1++r/\yj DY l1 as/\bw as=wT T fs/\CR C as (fun k=>cs[o+k]?)
 |[],[],o,l,r,_,h,_,_=>by
  simp only[zr,Option.some.injEq]at h
  exact⟨[],[],h,trivial,rfl,fun i a ha=>by simp at ha⟩
 |[],_::_,_,_,_,h,_,_,_=>by simp[eJ.fieldsOK]at h
 |_::_,[],_,_,_,h,_,_,_=>by simp[eJ.fieldsOK]at h
 |(p,t)::fs,g::gs,o,l,r,hd,h,hs,hr=>by
  simp only[eJ.fieldsOK,ar,j4]at hd
  obtain⟨rfl,rfl,hd⟩:=hd
  simp only[zr]at h
  split at h
  ·rename_i ti l' ho ht hfl
   obtain rfl:=j4.1 ho
   have hsz:=lH hT ht
   simp only[wT,ht]at hs
   obtain⟨l1,as,h1,h2,h3,h4⟩:=hf _ _ _ _ hfl (hr g (bq ..))
   obtain⟨l2,bs,k1,k2,k3,k4⟩:=FW hT hf fs gs (g.offset+ti.size) l' r hd h (by omega) fun g' hg=>hr g' (bt _ hg)
   rw[hsz]at h3 h4
   have hw:bw as=ti.size:=by rw[h3,ge,fH];omega
   refine⟨l1++l2,as++bs,by rw[h1,k1,qz],vd h2 k2,by rw[bO,hw,k3];simp only[wT,ht],CR.append (h4.congr fun k hk=>?_) ?_⟩
   ·rw[qo (by omega),mW]
   ·rw[hw]
    have e:∀k,g.offset+ti.size+k=g.offset+(ti.size+k):=fun k=>by omega
    simp only[e]at k4
    exact k4
  ·cases h
theorem BC {α:Type}{p:Nat->α->Prop}:∀(n:Nat),(∀i,i<n->∃a,p i a)->∃l:List α,l.length=n/\∀(i:Nat) a,l[i]? =some a->p i a
 |0,_=>⟨[],rfl,fun i a h=>by simp at h⟩
 |n+1,h=>by
  obtain⟨l,h1,h2⟩:=BC n fun i hi=>h i (by omega)
  obtain⟨a,ha⟩:=h n (by omega)
  refine⟨l++[a],by simp[h1],fun i b hb=>?_⟩
  by_cases hi:i<n
  ·rw[lB (by omega)]at hb;exact h2 i b hb
  ·rw[mQ (by omega)]at hb
   by_cases he:i=n
   ·subst he;rw[h1,jd]at hb;simp at hb;subst hb;exact ha
   ·rw[fF (by simp;omega)]at hb;cases hb
theorem De {t:Tag}(h:noGrp t=true):t≠ .grp:=by rintro rfl;cases h
theorem vr_r1 {t:Tag}(hg:t≠ .grp){x:El t}{a:AV}(ha:a∈enc t x){v:Value}(h:VR C a v){w:World}{ok:Nat->Prop}:R1 w ok a v:=by
 have key:(∃b,a= .bool b)\/(∃k n,a= .int k n)\/∃s,a= .str s:=by
  cases t<;>simp[enc,HN]at ha hg<;>simp_all
  all_goals first
   |(rcases ha with rfl|rfl|rfl|rfl<;>simp)
   |(rcases ha with rfl|rfl|rfl<;>simp)
   |(rcases ha with rfl|rfl<;>simp)
   |(rcases ha with rfl|rfl|rfl|rfl|rfl|rfl|rfl|rfl|rfl|rfl|rfl|rfl|rfl|rfl|rfl|rfl|rfl|rfl|rfl<;>simp)
   |(rcases ha with rfl|rfl|rfl|rfl|rfl|rfl|rfl|rfl|rfl|rfl|rfl|rfl|rfl|rfl|rfl|rfl|rfl|rfl|rfl|rfl<;>simp)
 left
 rcases key with ⟨b,rfl⟩|⟨k,n,rfl⟩|⟨s,rfl⟩<;>(obtain rfl:=h;rfl)
theorem se (hT:TOK P T)(hok:∀c,c<C.w.heap.size->C.ok c):∀(fuel n:Nat) (t:TypeId) (l r:List VT) (cs:List Value) (x:DataW H×List MemPlace),
  tn T n t l=some r->DataW.trod enc' P C.w 0 (fun _=>true) true fuel t cs=some x->
  ∃(l1:List VT) (as:List AV),l=l1++r/\yj DY l1 as/\bw as=cs.length/\CR C as (fun o=>cs[o]?)
 |0,_,_,_,_,_,_,_,h=>by simp[DataW.trod]at h
 |fuel+1,0,_,_,_,_,_,h,_=>by cases h
 |fuel+1,n+1,t,l,r,cs,x,h,hx=>by
  simp only[tn]at h
  split at h
  ·cases h
  ·rename_i ti ht
   obtain⟨i,d,F⟩:=hT.fact ht
   have hd:=F.desc
   have hu:=F.und
   split at h
   ·
    rename_i e
    obtain rfl:=aw h
    rw[e]at hd;cases d<;>simp[eJ]at hd
    obtain⟨b,rfl,_⟩:=DataW.trod_bool hu hx
    exact⟨[.bool],[.bool b],rfl,⟨⟨b,rfl⟩,trivial⟩,rfl,CR.one ⟨_,rfl,rfl⟩⟩
   ·
    rename_i k j r' e
    split at h
    ·rename_i hk
     obtain rfl:=aw h
     obtain rfl:=gS.1 hk
     rw[e]at hd;cases d<;>simp[eJ]at hd
     obtain rfl:=gS.1 hd
     obtain⟨m,rfl,_,hw⟩:=DataW.trod_int hu hx
     exact⟨[.int _],[.int _ m],rfl,⟨⟨m,rfl,hw⟩,trivial⟩,rfl,CR.one ⟨_,rfl,rfl⟩⟩
    ·cases h
   ·
    rename_i e
    obtain rfl:=aw h
    rw[e]at hd;cases d<;>simp[eJ]at hd
    obtain⟨s,rfl,_,hw⟩:=DataW.trod_string hu hx
    exact⟨[.str],[.str s.data.toList],rfl,⟨⟨_,rfl,by rw[Array.length_toList];exact hw⟩,trivial⟩,rfl,CR.one ⟨_,rfl,by show Value.string s=_;simp⟩⟩
   ·
    rename_i e tg r' hde
    split at h
    ·rename_i te hte
     split at h
     ·rename_i hc hce
      obtain rfl:=aw h
      simp only[ar]at hc
      have hsz:=(lH hT hte).trans (j4.1 hc.1)
      have hng:=De hc.2
      rw[hde]at hd;cases d<;>simp[eJ]at hd
      obtain rfl:=hd
      rcases DataW.trod_slice hu hx with ⟨rfl,_⟩|⟨a,len,cap,elems,rest,m,hm,rfl,_,_,hlc,hcm,hel,hget,_,_⟩
      ·exact⟨[.list tg],[.list tg []],rfl,⟨⟨[],rfl,iG _,by simp⟩,trivial⟩,rfl,CR.one ⟨_,rfl,none,0,rfl,bV _,.inl rfl⟩⟩
      ·obtain rfl:fuel=m:=by omega
       have hone:∀i,i<len->∃y:El tg,DY tg y/\∀j b,(enc tg y)[j]? =some b->∃v,C.w.cell? ((a.add (i*esz tg)).add j)=some v/\R1 C.w C.ok b v:=by
        intro i hi
        have h1:=hget i hi
        have hi':i<elems.length:=by omega
        rw[co hi',hsz,qq]at h1
        obtain⟨us,h2,h3⟩:=h1
        obtain⟨_,h4,h5⟩:=World.cells?_some h2
        obtain⟨l1,as,k1,k2,k3,k4⟩:=se hT hok fuel n _ _ _ _ _ hce h3
        rw[qD]at k1
        subst k1
        obtain⟨y,rfl,hy⟩:=Kf tg hng as k2
        refine⟨y,hy,fun j b hb=>?_⟩
        have hj:j<(enc tg y).length:=(bj.1 hb).1
        have:=k4 j b hb
        rw[jU _ (jm tg y) j (by omega)]at this
        obtain⟨v,hv,hr⟩:=(ER.of_one (kG tg y b (cw hb))).1 this
        rw[fj]at hj
        exact⟨v,(h5 j (by omega)).trans hv,vr_r1 hng (cw hb) hr⟩
       obtain⟨ys,hy1,hy2⟩:=BC len hone
       refine⟨[.list tg],[.list tg ys],rfl,⟨⟨ys,rfl,by omega,fun y hy=>?_⟩,trivial⟩,rfl,CR.one ⟨_,rfl,some a,cap,by rw[hy1],by omega,?_⟩⟩
       ·obtain⟨i,hi⟩:=sX hy
        exact(hy2 i y hi).1
       ·cases hys:ys with
        |nil=>exact .inl rfl
        |cons y0 yr=>
         right
         have h0:=(hy2 0 y0 (by rw[hys];rfl)).2
         have hpos:0<(enc tg y0).length:=by rw[fj];exact u3 tg
         obtain⟨v,hv,_⟩:=h0 0 _ (co hpos)
         simp only[Nat.zero_mul,Addr.add,if_true]at hv
         have hspot:=World.cell?_spot hv
         have hlt:a.block<C.w.heap.size:=by
          unfold World.cell? at hv
          split at hv
          ·rename_i hh;exact(mR.1 hh).1
          ·cases hv
         refine⟨a.block,a.off,?_,hok _ hlt,fun i y hi j b hb=>?_⟩
         ·rw[<-hspot]
         ·rw[<-hys]at hi
          obtain⟨v,hv,hr⟩:=(hy2 i y hi).2 j b hb
          refine⟨v,?_,hr⟩
          rw[<-hv]
          congr 1
          obtain⟨ab,ao,asp⟩:=a
          obtain rfl:asp=none:=hspot
          simp only[Addr.add]
          by_cases e1:i*esz tg=0<;>by_cases e2:j=0<;>simp[e1,e2]
     ·cases h
    ·cases h
   ·
    rename_i m e j r' hde
    split at h
    ·rename_i te hmj hte
     split at h
     ·rename_i hed h1
      obtain rfl:=aw h
      simp only[ar]at hmj
      obtain rfl:=j4.1 hmj.1
      have hm:=j4.1 hmj.2
      rw[hde]at hd;cases d<;>simp[eJ]at hd
      obtain⟨hd1,hd2⟩:=hd
      obtain rfl:=hd1
      obtain rfl:=hd2
      have hsz:=(lH hT hte).trans (j4.1 h1)
      obtain⟨xs,q,hq,_,hlen,hxl,hget⟩:=DataW.trod_array hu hx
      obtain⟨ie,de,Fe⟩:=hT.fact hte
      have hde:=Fe.desc
      rw[hed]at hde
      have hue:=Fe.und
      cases de<;>simp[eJ]at hde
      obtain rfl:=gS.1 hde
      rw[lH hT ht,<-hm]at hlen
      have hone:∀i,i<m->∃z:Int,(Lit.int .i64 z).wf=true/\cs[i]? =some (.int .i64 z):=by
       intro i hi
       have h2:=hget i hi
       rw[co (by omega),hsz,eB]at h2
       obtain⟨z,hz,_,hw⟩:=DataW.trod_int hue h2
       refine⟨z,hw,?_⟩
       have:=congrArg (·[0]?) hz
       simpa[mw]using this
      obtain⟨zs,hz1,hz2⟩:=BC m hone
      refine⟨[.arr .i m],[.arr .i m zs],rfl,⟨⟨zs,rfl,hz1,fun z hz=>?_⟩,trivial⟩,by simp[bw,AV.width,hlen],CR.one fun j hj=>?_⟩
      ·obtain⟨i,hi⟩:=sX hz
       exact⟨⟨z,rfl,(hz2 i z hi).1⟩,trivial⟩
      ·have hj':j<zs.length:=by omega
       have h3:=(hz2 j _ (co hj')).2
       refine⟨_,.int .i64 zs[j],by simpa using h3,?_,rfl⟩
       simp[enc,bk,List.getD,co hj']
     ·cases h
    ·cases h
   ·
    rename_i l0 _ _ fs hde
    split at h
    ·rename_i r' hfs
     split at h
     ·rename_i hsz
      obtain rfl:=aw h
      have hsz:=j4.1 hsz
      rw[hde]at hd;cases d<;>simp[eJ]at hd
      rename_i gs
      obtain⟨xs,m,hm,_,hlen,hxl,hget⟩:=DataW.trod_struct hu hx
      obtain rfl:fuel=m:=by omega
      rw[lH hT ht]at hlen
      obtain⟨l1,as,h1,h2,h3,h4⟩:=FW (enc':=enc') (C:=C) (cs:=cs) hT (f:=tn T n) (m:=fuel) (fun t l r us hf ⟨y,hy⟩=>se hT hok fuel n t l r us y hf hy) fs gs.toList 0 l0 r' hd hfs (by omega) fun g hg=>by
       obtain⟨i,hi⟩:=sX hg
       have hi':i<xs.length:=by rw[hxl];have:=(bj.1 hi).1;simpa using this
       exact⟨xs[i],(hget i g (by simpa using hi)).trans (co hi')⟩
      exact⟨l1,as,h1,h2,by rw[h3,hsz,hlen],by simpa using h4⟩
     ·cases h
    ·cases h
   ·cases h
end
end Go.Den
namespace Go.Den
open Go.RowKit (Below)
mutual
def VT.wf:(v:VT)->v.Ty->Prop
 | .bool,_=>True
 | .int k,n=>(Lit.int k n).wf=true
 | .str,s=>s.length<=maxLen
 | .list t,xs=>xs.length<=maxLen/\∀x∈xs,DY t x
 | .el t,x=>DY t x
 | .arr t n,xs=>xs.length=n/\∀x∈xs,DY t x
 | .konst _,_=>True
 | .agg l,x=>VTL.wf l x
def VTL.wf:(l:List VT)->VTL.Ty l->Prop
 |[],_=>True
 | .konst _::r,x=>VTL.wf r x
 | .bool::r,x=>VTL.wf r x.2
 | .int k::r,x=>VT.wf (.int k) x.1/\VTL.wf r x.2
 | .str::r,x=>VT.wf .str x.1/\VTL.wf r x.2
 | .list t::r,x=>VT.wf (.list t) x.1/\VTL.wf r x.2
 | .el t::r,x=>VT.wf (.el t) x.1/\VTL.wf r x.2
 | .arr t n::r,x=>VT.wf (.arr t n) x.1/\VTL.wf r x.2
 | .agg l::r,x=>VT.wf (.agg l) x.1/\VTL.wf r x.2
end
theorem oH:∀(l:List VT) (as:List AV),yj DY l as->∃y:VTL.Ty l,VTL.un l y=as/\VTL.wf l y
 |[],as,h=>by
  obtain rfl:=jX h
  exact⟨(),rfl,trivial⟩
 | .konst c::l,as,h=>by
  obtain⟨a,r,rfl⟩:=iB h
  exact h.1.elim
 | .el t::l,as,h=>by
  obtain⟨a,r,rfl⟩:=iB h
  exact h.1.elim
 | .agg m::l,as,h=>by
  obtain⟨a,r,rfl⟩:=iB h
  exact h.1.elim
 | .bool::l,as,h=>by
  obtain⟨a,r,rfl⟩:=iB h
  obtain⟨⟨b,rfl⟩,h⟩:=h
  obtain⟨y,rfl,hw⟩:=oH l r h
  exact⟨(b,y),rfl,hw⟩
 | .int k::l,as,h=>by
  obtain⟨a,r,rfl⟩:=iB h
  obtain⟨⟨b,rfl,w⟩,h⟩:=h
  obtain⟨y,rfl,hw⟩:=oH l r h
  exact⟨(b,y),rfl,w,hw⟩
 | .str::l,as,h=>by
  obtain⟨a,r,rfl⟩:=iB h
  obtain⟨⟨b,rfl,w⟩,h⟩:=h
  obtain⟨y,rfl,hw⟩:=oH l r h
  exact⟨(b,y),rfl,w,hw⟩
 | .list t::l,as,h=>by
  obtain⟨a,r,rfl⟩:=iB h
  obtain⟨⟨b,rfl,w⟩,h⟩:=h
  obtain⟨y,rfl,hw⟩:=oH l r h
  exact⟨(b,y),rfl,w,hw⟩
 | .arr t n::l,as,h=>by
  obtain⟨a,r,rfl⟩:=iB h
  obtain⟨⟨b,rfl,w⟩,h⟩:=h
  obtain⟨y,rfl,hw⟩:=oH l r h
  exact⟨(b,y),rfl,w,hw⟩
def wW:Option (List VT)->Bool
 |some []=>true
 |_=>false
def HK (T:Tr TI)(t:TypeId):Bool:=match T.get t with
 |some ti=>ti.agg
 |none=>false
def H3 (T:Tr TI)(t:TypeId):VT->Bool
 | .agg l=>HK T t&&wW (tn T 12 t l)
 | .el tg=>HK T t&&(noGrp tg&&wW (tn T 12 t (DC tg)))
 | .konst _=>false
 |v=> !HK T t&&wW (tn T 12 t [v])
def Ff (T:Tr TI):List TypeId->List VT->Bool
 |[],[]=>true
 |t::ts,v::vs=>H3 T t v&&Ff T ts vs
 |_,_=>false
section
variable {P:Program}{T:Tr TI}{C:Cx}{H:Type}{enc':TypeId×Value->H}
theorem zU {o:Option (List VT)}(h:wW o=true):o=some []:=by
 cases o with
 |none=>cases h
 |some l=>cases l<;>first|rfl|cases h
theorem agg_val {b:Nat}(hT:TOK P T){t:TypeId}{v:Value}(hv:Value.okWide P C.w .any b t v)(ha:HK T t=true):∃cs,v= .agg cs:=by
 unfold HK at ha
 split at ha
 ·rename_i ti ht
  obtain⟨i,d,F⟩:=hT.fact ht
  have hd:=F.desc
  have hu:=F.und
  unfold TI.agg at ha
  unfold Value.okWide at hv
  rw[hu]at hv
  split at ha
  ·rename_i e;rw[e]at hd;cases d<;>simp[eJ]at hd
   obtain⟨cs,h,_⟩:=hv;exact⟨cs,h⟩
  ·rename_i e;rw[e]at hd;cases d<;>simp[eJ]at hd
   obtain⟨cs,h,_⟩:=hv;exact⟨cs,h⟩
  ·cases ha
 ·cases ha
theorem one_val {b:Nat}(hT:TOK P T){t:TypeId}{v:Value}(hv:Value.okWide P C.w .any b t v)(ha:HK T t=false){n:Nat}{vt:VT}(hc:tn T n t [vt]=some []):v.cells= #[v]:=by
 cases n with
 |zero=>cases hc
 |succ n=>
  simp only[tn]at hc
  split at hc
  ·cases hc
  ·rename_i ti ht
   obtain⟨i,d,F⟩:=hT.fact ht
   have hd:=F.desc
   have hu:=F.und
   unfold HK at ha
   rw[ht]at ha
   dsimp only at ha
   unfold TI.agg at ha
   unfold Value.okWide at hv
   rw[hu]at hv
   cases hdd:ti.d<;>rw[hdd]at hd ha hc<;>first|(cases ha;done)|skip
   all_goals (cases d<;>simp[eJ]at hd<;>simp only[Cell.okWide,hu]at hv<;>cases v<;>first|rfl|(simp[Cell.ok,hu]at hv;done)|(simp at hc;done))
theorem H4 {b:Nat}(hT:TOK P T)(hok:∀c,c<C.w.heap.size->C.ok c){t:TypeId}{v:Value}{d:DataW H}{ps:List MemPlace}(hv:Value.okWide P C.w .any b t v)(hd:DataW.Trod enc' P C.w 0 (fun _=>true) true t v d ps):
  ∀(vt:VT),H3 T t vt=true->∃x:vt.Ty,TR C (vt.un x) v/\vt.wf x:=by
 obtain⟨fuel,hf⟩:=hd
 have one:∀vt:VT,HK T t=false->wW (tn T 12 t [vt])=true->∃a,fitV DY vt a/\VR C a v:=by
  intro vt ha hc
  have hc:=zU hc
  have hcell:=one_val hT hv ha hc
  rw[hcell]at hf
  obtain⟨l1,as,h1,h2,_,h4⟩:=se hT hok _ _ _ _ _ _ _ hc hf
  rw[qD]at h1
  subst h1
  obtain⟨a,r,rfl⟩:=iB h2
  have he:=h4 0 a rfl
  rw[GL]at he
  refine⟨a,h2.1,?_⟩
  have hna:(∀t n xs,a≠ .arr t n xs)\/∃t n,vt= .arr t n:=by
   cases vt with
   |arr t n=>exact .inr ⟨t,n,rfl⟩
   |bool=>obtain⟨⟨b,rfl⟩,_⟩:=h2;exact .inl (by simp)
   |int k=>obtain⟨⟨b,rfl,_⟩,_⟩:=h2;exact .inl (by simp)
   |str=>obtain⟨⟨b,rfl,_⟩,_⟩:=h2;exact .inl (by simp)
   |list t=>obtain⟨⟨b,rfl,_⟩,_⟩:=h2;exact .inl (by simp)
   |_=>exact h2.1.elim
  rcases hna with hna|⟨t',n,rfl⟩
  ·obtain⟨u,hu,hr⟩:=(ER.of_one hna).1 he
   simp at hu;subst hu;exact hr
  ·
   exfalso
   simp only[tn]at hc
   unfold HK at ha
   split at hc
   ·cases hc
   ·rename_i ti ht
    rw[ht]at ha
    dsimp only at ha
    unfold TI.agg at ha
    cases hdd:ti.d<;>rw[hdd]at hc ha<;>first|(cases ha;done)|(cases hc;done)
 have agg:∀l:List VT,HK T t=true->wW (tn T 12 t l)=true->∃as,yj DY l as/\TR C (.agg as) v:=by
  intro l ha hc
  have hc:=zU hc
  obtain⟨cs,rfl⟩:=agg_val hT hv ha
  obtain⟨l1,as,h1,h2,h3,h4⟩:=se hT hok _ _ _ _ _ _ _ hc hf
  rw[qD]at h1
  subst h1
  exact⟨as,h2,cs,rfl,by rw[h3];simp[Value.cells],by simpa[Value.cells]using h4⟩
 intro vt hvt
 cases vt with
 |konst c=>cases hvt
 |agg l=>
  simp only[H3,ar]at hvt
  obtain⟨as,h1,h2⟩:=agg l hvt.1 hvt.2
  obtain⟨y,rfl,hw⟩:=oH l as h1
  exact⟨y,h2,hw⟩
 |el tg=>
  simp only[H3,ar]at hvt
  obtain⟨as,h1,h2⟩:=agg _ hvt.1 hvt.2.2
  obtain⟨y,rfl,hw⟩:=Kf tg (De hvt.2.1) as h1
  exact⟨y,h2,hw⟩
 |bool=>
  simp only[H3,ar,ef]at hvt
  obtain⟨a,⟨b,rfl⟩,h⟩:=one _ hvt.1 hvt.2
  exact⟨b,TR.of_VR h,trivial⟩
 |int k=>
  simp only[H3,ar,ef]at hvt
  obtain⟨a,⟨b,rfl,w⟩,h⟩:=one _ hvt.1 hvt.2
  exact⟨b,TR.of_VR h,w⟩
 |str=>
  simp only[H3,ar,ef]at hvt
  obtain⟨a,⟨b,rfl,w⟩,h⟩:=one _ hvt.1 hvt.2
  exact⟨b,TR.of_VR h,w⟩
 |list tg=>
  simp only[H3,ar,ef]at hvt
  obtain⟨a,⟨b,rfl,w⟩,h⟩:=one _ hvt.1 hvt.2
  exact⟨b,TR.of_VR h,w⟩
 |arr tg n=>
  simp only[H3,ar,ef]at hvt
  obtain⟨a,⟨b,rfl,w⟩,h⟩:=one _ hvt.1 hvt.2
  exact⟨b,TR.of_VR h,w⟩
theorem zm {b:Nat}(hT:TOK P T)(hok:∀c,c<C.w.heap.size->C.ok c):∀(ts:List TypeId) (vts:List VT) (vs:List Value) (ds:List (DataW H)) (ps:List MemPlace),Ff T ts vts=true->DataW.TrodAll enc' P C.w 0 (fun _=>true) true ts vs ds ps->
  (∀(j:Nat) t v,ts[j]? =some t->vs[j]? =some v->Value.okWide P C.w .any b t v)->∃y:VTL.Ty vts,jw (TR C) (VTL.un vts y) vs/\VTL.wf vts y
 |[],[],[],_,_,_,_,_=>⟨(),trivial,trivial⟩
 |[],[],_::_,ds,_,_,h,_=>by cases ds<;>exact h.elim
 |[],_::_,_,_,_,h,_,_=>by simp[Ff]at h
 |_::_,[],_,_,_,h,_,_=>by simp[Ff]at h
 |t::ts,vt::vts,[],ds,ps,_,h,_=>by cases ds<;>exact h.elim
 |t::ts,vt::vts,v::vs,[],ps,_,h,_=>h.elim
 |t::ts,vt::vts,v::vs,d::ds,ps,hc,h,hv=>by
  simp only[Ff,ar]at hc
  obtain⟨p,q,h1,h2,_⟩:=h
  obtain⟨x,x1,x2⟩:=H4 hT hok (hv 0 t v rfl rfl) h1 vt hc.1
  obtain⟨y,y1,y2⟩:=zm hT hok ts vts vs ds q hc.2 h2 fun j t' v' a b=>hv (j+1) t' v' a b
  cases vt with
  |konst c=>cases hc.1
  |bool=>exact⟨(x,y),⟨x1,y1⟩,y2⟩
  |_=>exact⟨(x,y),⟨x1,y1⟩,x2,y2⟩
theorem zn (hl:laidOutB P=true){W W':World}(hb:Below W.heap.size W W'):∀(ts:List TypeId) (vs:List Value) (ds:List (DataW H)) (ps:List MemPlace),(ts.all fun t=>P.readableRec t&&Nat.blt t P.types.size)=true->DataW.TrodAll enc' P W 0 (fun _=>true) true ts vs ds ps->
  DataW.TrodAll enc' P W' 0 (fun b=>decide (b<W.heap.size)) true ts vs ds ps
 |[],[],[],_,_,h=>h
 |[],[],_::_,_,_,h=>h.elim
 |[],_::_,ds,_,_,h=>by cases ds<;>exact h.elim
 |t::ts,[],ds,ps,_,h=>by cases ds<;>exact h.elim
 |t::ts,v::vs,[],ps,_,h=>h.elim
 |t::ts,v::vs,d::ds,ps,hc,h=>by
  simp only[List.all_cons,ar,gO]at hc
  obtain⟨p,q,h1,h2,rfl⟩:=h
  refine⟨p,q,Below.trod hl hc.1.1 hc.1.2 h1 hb ?_,zn hl hb ts vs ds q hc.2 h2,rfl⟩
  obtain⟨m,hm⟩:=h1
  exact DataW.trod_lt m _ _ _ hm
theorem ug {g:FuncId}{fn:Func}{cargs:Array Value}{w:World}{R:Value->World->Prop}(hf:P.funcs[g]? =some fn)(hname:(fn.name== "runtime.NumGoroutine")=false)(hb:fn.body.isNone=false)
  (h:AT P g cargs w R):Calls P g cargs w fun e w'=>∃x,e= .returned x/\R x w':=by
 have hr:(callFunc g cargs).run P w= .ok (.enter g cargs) w:=by
  unfold callFunc
  rw[Sem.run_bind,run_program,Result.andThen_ok,hf]
  dsimp only
  rw[hname,hb]
  rfl
 have:=h {dst:=some 0,op:= .ready 0,type:=0,pos:= "",after:= #[],guard:=none} {tmps:= #[undef],defers:=[]} (fun a w'=>R (a.tmps.getD 0 undef) w') (fun _ _ _=>False) fun x w' hx=>by simpa[Act.put]using hx
 rw[hr]at this
 refine Calls.mono (show Calls P g cargs w _ from this) fun e w' he=>?_
 cases e with
 |returned v=>exact⟨v,rfl,by simpa[Act.put]using he⟩
 |panicked c=>exact he.elim
 |outgrown=>obtain⟨_,_,he⟩:=(he:LetsOut _);exact he.elim
def cx0 (W:World):Cx:={w:=W,loc:=fun _=>none,blk:=fun _=> .gone,ok:=fun c=>c<W.heap.size,used:=fun _=>False}
theorem cx0_inv (W:World):Inv (lT (cx0 W) 0 []) (AH [] 0 []) (cx0 W) where
 eqb _:=by rw[jZ];rfl
 bl _:=by rw[jZ];trivial
 inj b b' c h:=by rw[jZ]at h;exact ah rfl h
 lt b c h:=by cases h
 us b _:=⟨by rw[jZ];rfl,rfl⟩
 okd c hc:=⟨hc,fun b h=>by rw[jZ]at h;cases h⟩
 okS c hc:= .inl hc
 own b c h:=by rw[jZ]at h;exact ah rfl h
 lt0 i c h:=ah h (cN _)
 inj0 i j c h:=ah h (cN _)
 pas b h:=ah h (cN _)
 pus b h:=ah h (cN _)
 frm:=⟨Below.refl _ _,fun _ _ _=>rfl⟩
 prt i h:=ah h (cN _)
 prt2 i h:=ah h (cN _)
 stay i h:=ah h (cN _)
 shp _ _ h:=h
 wid i h:=ah h (cN _)
 npn:=rfl
 all:=rfl
theorem Gm {L:Lay}{g:FuncId}{fn:Func}{m:Sem1}(hf:P.funcs[g]? =some fn)(hname:(fn.name== "runtime.NumGoroutine")=false)(hb:fn.body.isNone=false)(hm:uS P L g m)(hw:m.wr=[])
  {W:World} (hL:L.In W (fun c=>c<W.heap.size)) {args:List AV} {cargs:Array Value} (ha:jw (TR (cx0 W)) args cargs.toList) (hr:m.run Unit args [] (fun r _=>match r with| .bool true=>some ()|_=>none)=some ()):
  Calls P g cargs W fun e w'=>e= .returned (.bool true)/\Below W.heap.size W w':=by
 have hI:Inv (lT (cx0 W) ([]:List Blk).length m.wr) (AH [] ([]:List Blk).length m.wr) (cx0 W):=by rw[hw];exact cx0_inv W
 refine(ug hf hname hb (hm (cx0 W) args [] cargs (fun i=>⟨fun h=>h.elim,fun h=>ah h (cN _)⟩) hL hI ha Unit _ () hr)).mono fun e w' ⟨x,he,r,hs',C',h1,h2,h3,_,_,h6⟩=>?_
 subst he
 split at h1
 ·have hx:x= .bool true:=h6
  refine⟨by rw[hx],?_⟩
  subst h2
  obtain⟨hb,hc⟩:=h3.frm
  exact⟨hb.os,hb.tape,hb.output,hb.size,fun k hk=>hc k hk fun i hi=>ah hi (cN _)⟩
 ·cases h1
end
end Go.Den
namespace Go.Den
open Go.RowKit (Below)
section
variable {P:Program}
theorem Lay.In.var {L:Lay}{w:World}{ok:Nat->Prop}(h:L.In w ok){name:String}{g:Nat}{p:Array Value->Prop}(hm:(g,p)∈L)(hg:P.globalNamed name=some g):∃cs,p cs/\w.var? P name=some cs:=by
 obtain⟨_,cs,hp,⟨T,hs⟩,hc⟩:=h _ hm
 refine⟨cs,hp,?_⟩
 unfold World.shape? at hs
 split at hs
 ·rename_i arr el fr he
  obtain⟨rfl,hn⟩:=Prod.mk.inj (aw hs)
  have:arr=cs:=by
   refine Array.ext hn fun i h1 h2=>?_
   have:=hc i cs[i] (Array.getElem?_eq_getElem h2)
   unfold World.cell? at this
   rw[he]at this
   have h3:arr[i]? =some cs[i]:=by simpa[Addr.spot]using this
   rw[Array.getElem?_eq_getElem h1]at h3
   exact aw h3
  subst this
  unfold World.var?
  rw[hg]
  show(match w.heap[g]? with|some (.cells cs _ _)=>some cs|_=>none)=_
  rw[he]
 ·cases hs
end
end Go.Den
namespace Go.Den
open Go.RowKit (Below)
open Go.Sort (grow heap_grow_old)
section
variable {P:Program}
end
end Go.Den
namespace Go.Den
open Go.ChangeShapes Go.WideShapes Go.RowKit
section
variable {P:Program}
theorem lay_nil {w:World}{ok:Nat->Prop}:Lay.In [] w ok:=fun _ h=>by cases h
end
end Go.Den
namespace Go.Den
open Go.RowKit (Below)
section
variable {P:Program}{T:Tr TI}{E:Tr Sem1}{A:Anns}{F:Nat}
theorem in_ok {L:Lay}(hV0:Env0 P T E L){g:FuncId}{fn:Func}(hf:P.funcs[g]? =some fn)(hname:(fn.name== "runtime.NumGoroutine")=false)(hok:(match fn.body with|some c=>pB fn.ntmps c|none=>false)=true)
  (own:Bool) (wr:List (Nat×Nat×Nat)):uS P L g (Ga E T A F fn own wr):=by
 cases hb:fn.body with
 |none=>rw[hb]at hok;cases hok
 |some c=>
 rw[hb]at hok
 intro C args hs cargs hu hL hI hargs α k ans hr
 have hV:Env P T E (lT C hs.length wr):=hV0.at hL
 simp only[Ga]at hr hI
 split at hr
 ·rename_i hts
  refine pp hf hname (by rw[hb];rfl) (calls_of_wp hf hb ?_)
  unfold denF at hr
  rw[hb]at hr
  dsimp only at hr
  have hal:=hargs.length
  have hlen:args.length<=fn.ntmps:=by rw[<-lenN_eq];exact i9 hts
  have hG:Good (lT C hs.length wr) fn.ntmps (argS wr args hs) C {tmps:=cargs++Array.replicate (fn.ntmps-cargs.size) undef,defers:=[]} C.w:=
   {w:=rfl
    inv:=hI.same rfl (lenN_eq hs) rfl
    old:={keep:=fun i _=>BK.refl _ trivial,cell:=fun _ _ _ _ h=>h,ok:=fun _ h=>h}
    fr:=fun i hi=>by show i<lenN hs;rw[lenN_eq];exact(hu i).1 hi
    ain:={dfr:=rfl
          siz:=by simp at hal|-;omega
          tm:=fun i=>by
           show TR C (match look (Kt 0 args) i with|some v=>v|none=> .dead) _
           rw[yI,aa (iG _),Nat.sub_zero]
           cases h:args[i]? with
           |none=>trivial
           |some v=>
            obtain⟨y,h1,h2⟩:=hargs.at h
            have hi:i<cargs.size:=by have:=(bj.1 h1).1;simpa using this
            have:(cargs++Array.replicate (fn.ntmps-cargs.size) undef).getD i undef=y:=by
             have h3:cargs[i]? =some y:=by simpa using h1
             rw[sa,qm hi,h3];rfl
            rw[this];exact h2}}
  refine zu hV (uj hV) c 0 _ _ _ ans C _ C.w _ hok hr hG fun e s' C' a' w' g' hk=>?_
  have fin:(match HR T s' fn.results.toList with
    |none=>none
    |some vs=>match oneV vs with
     |some v=>finK own s' v k
     |none=>none)=some ans->a'.defers=[]/\∃v,(results fn a'.tmps).run P w'= .ok v w'/\∃x,Ending.returned v= .returned x/\∃r hs' C',k r hs'=some ans/\C'.w=w'/\Inv (lT C hs.length wr) (AH hs' hs.length wr) C'/\Old (lT C hs.length wr) C'/\(∀i,C'.used i->i<hs'.length)/\TR C' r x:=by
   intro hk
   split at hk
   ·cases hk
   ·rename_i vs hvs
    split at hk
    ·rename_i v hv
     obtain⟨x,h1,h2⟩:=wa (fn:=fn) hV.tok g' hvs hv
     obtain⟨C'',e1,e2,e3,e4,e5⟩:=Ip g' own h2
     exact⟨g'.ain.dfr,x,h1,x,rfl,_,_,C'',hk,e1,e2,e3,e4,e5⟩
    ·cases hk
  cases e with
  |exit i=>cases hk
  |norm=>exact fin hk
  |ret=>exact fin hk
 ·cases hr
end
end Go.Den
namespace Go.Den
theorem iD.{u}{c:Prop}{h:Decidable c}{α:Sort u}{t e:α}(k:¬c:=by decide):(@ite α c h t e)=e:=ae k
theorem iN.{u}{c:Prop}{h:Decidable c}{α:Sort u}{t e:α}(k:¬c:=by omega):(@ite α c h t e)=e:=ae k
theorem iP.{u}{c:Prop}{h:Decidable c}{α:Sort u}{t e:α}(k:c:=by omega):(@ite α c h t e)=t:=aa k
theorem dT {p:Prop}[i:Decidable p](k:p:=by omega):decide p=true:=aF k
theorem dF {p:Prop}[i:Decidable p](k:¬p:=by omega):decide p=false:=aP k
theorem aV {α:Type}{x y:α}:br true x y=x:=rfl
theorem ap {α:Type}{x y:α}:br false x y=y:=rfl
theorem af {α β:Type}{x:α}{f:α->Option β}:bnd (some x) f=f x:=rfl
theorem ag {α:Type}{c:Bool}{x y:α}(h:c=true):br c x y=x:=by rw[h];rfl
theorem aq {α:Type}{c:Bool}{x y:α}(h:c=false):br c x y=y:=by rw[h];rfl
theorem kN {a b:Int}(h:a<b:=by omega):ltI a b=true:=aF h
theorem kJ {a b:Int}(h:¬a<b:=by omega):ltI a b=false:=aP h
theorem gY {a b:Int}(h:a<=b:=by omega):leI a b=true:=aF h
theorem mI {a b:Int}(h:¬a<=b:=by omega):leI a b=false:=aP h
theorem bK {a b:Int}(h:a=b:=by omega):eqI a b=true:=aF h
theorem aD {a b:Int}(h:a≠b:=by omega):eqI a b=false:=aP h
theorem cQ {a b:Int}(h:0<=a:=by omega)(k:a<b:=by omega):inR a b=true:=by simp[inR,h,k]
theorem uh {a b:Int}(h:0<=a:=by omega)(k:a<=b:=by omega):inC a b=true:=by simp[inC,h,k]
theorem mr (a:Bool):bm a= !a:=rfl
def I64 (n:Int):Prop:= -9223372036854775808<=n/\n<9223372036854775808
theorem fd {n:Int}(h:I64 n):IntKind.wrap .i64 n=n:=by
 unfold I64 at h
 simp only[IntKind.wrap,IntKind.bits,IntKind.signed,jR,aG,ge_iff_le]
 simp only[show(2:Int)^64=18446744073709551616 from rfl,show(2:Int)^(64-1)=9223372036854775808 from rfl]
 by_cases h0:0<=n
 ·rw[jb h0 (by omega),ae (by omega)]
 ·have:n%18446744073709551616=n+18446744073709551616:=by omega
  rw[this,aa (by omega)];omega
theorem aB (n:Int):I64 (IntKind.wrap .i64 n):=by
 unfold I64
 simp only[IntKind.wrap,IntKind.bits,IntKind.signed,jR,aG,ge_iff_le]
 simp only[show(2:Int)^64=18446744073709551616 from rfl,show(2:Int)^(64-1)=9223372036854775808 from rfl]
 have h1:=eg n (show(18446744073709551616:Int)≠0 by decide)
 have h2:=eZ n (show(0:Int)<18446744073709551616 by decide)
 split<;>omega
theorem zh {a b:Int}(h:I64 (a+b)):aL .i64 a b=a+b:=fd h
theorem sub_id {a b:Int}(h:I64 (a-b)):bo .i64 a b=a-b:=fd h
theorem mul_id {a b:Int}(h:I64 (a*b)):cj .i64 a b=a*b:=fd h
theorem DF {n:Int}(h:I64 n):an .i64 n=n:=fd h
theorem wf64 {n:Int}(h:(Lit.int .i64 n).wf=true):I64 n:=by
 simp only[Lit.wf,ar,aG]at h
 simp only[IntKind.min,IntKind.max,IntKind.signed,IntKind.bits]at h
 unfold I64
 simp at h
 omega
theorem bW {α:Type}(xs:List α):da xs=(xs.length:Int):=rfl
theorem It {α:Type}{xs:List α}{i:Int}{d:α}(h0:0<=i)(h1:i<xs.length):∃h,bk xs i d=xs[i.toNat]'h:=by
 have:i.toNat<xs.length:=by omega
 exact⟨this,by simp[bk,this]⟩
theorem le {α:Type}{xs:List α}{i:Nat}{d:α}(h:i<xs.length):bk xs (i:Int) d=xs[i]:=by simp[bk,h]
theorem F9 {c:Int}(h:c<=549755813888):D3 c=true:=aF h
theorem oZ {σ α:Type}{f:(σ->Option α)->σ->Option α}(I:σ->Prop)(μ:σ->Nat)(R:σ->Option α->Prop)
  (h:∀x rec,I x->(∀y,I y->μ y<μ x->R y (rec y))->R x (f rec x)):∀(n:Nat) (x:σ),I x->μ x<n->R x (iter n f x)
 |0,x,_,hm=>ah hm (cN _)
 |n+1,x,hI,hm=>h x (iter n f) hI fun y hy hlt=>oZ I μ R h n y hy (by omega)
theorem iJ {σ α:Type}{f:(σ->Option α)->σ->Option α}(I:σ->Prop)(μ:σ->Nat)(g:σ->Option α)
  (h:∀x rec,I x->(∀y,I y->μ y<μ x->rec y=g y)->f rec x=g x):∀(n:Nat) (x:σ),I x->μ x<n->iter n f x=g x
 |0,x,_,hm=>ah hm (cN _)
 |n+1,x,hI,hm=>h x (iter n f) hI fun y hy hlt=>iJ I μ g h n y hy (by omega)
end Go.Den
namespace Go.Den
def Ret {α:Type}(o:Option α)(Q:α->Prop):Prop:=∃x,o=some x/\Q x
theorem Ret.some {α:Type}{x:α}{Q:α->Prop}(h:Q x):Ret (Option.some x) Q:=⟨x,rfl,h⟩
theorem Ret.of_eq {α:Type}{o:Option α}{x:α}{Q:α->Prop}(e:o=Option.some x)(h:Q x):Ret o Q:=⟨x,e,h⟩
theorem Ret.bnd {α β:Type}{o:Option α}{f:α->Option β}{Q:α->Prop}{R:β->Prop}(h:Ret o Q)(k:∀x,Q x->Ret (f x) R):Ret (Go.Den.bnd o f) R:=by
 obtain⟨x,rfl,hx⟩:=h;exact k x hx
theorem Ret.br {α:Type}{c:Bool}{a b:Option α}{R:α->Prop}(h1:c=true->Ret a R)(h2:c=false->Ret b R):Ret (Go.Den.br c a b) R:=by
 cases c
 ·exact h2 rfl
 ·exact h1 rfl
theorem Ret.need {α:Type}{c:Bool}{a b:Option α}{R:α->Prop}(hc:c=true)(h:Ret a R):Ret (Go.Den.br c a b) R:=by rw[ag hc];exact h
theorem Ret.not {α:Type}{c:Bool}{a b:Option α}{R:α->Prop}(hc:c=false)(h:Ret b R):Ret (Go.Den.br c a b) R:=by rw[aq hc];exact h
theorem Ret.mono {α:Type}{o:Option α}{Q R:α->Prop}(h:Ret o Q)(k:∀x,Q x->R x):Ret o R:=by
 obtain⟨x,e,hx⟩:=h;exact⟨x,e,k x hx⟩
theorem Ret.iter {σ α:Type}{f:(σ->Option α)->σ->Option α}(I:σ->Prop)(μ:σ->Nat){R:α->Prop}
  (h:∀x rec,I x->(∀y,I y->μ y<μ x->Ret (rec y) R)->Ret (f rec x) R) (n:Nat) (x:σ) (hI:I x) (hm:μ x<n):Ret (Go.Den.iter n f x) R:=
 oZ I μ (fun _ o=>Ret o R) h n x hI hm
theorem Ret.eq {α:Type}{o:Option α}{x:α}(h:Ret o (· =x)):o=Option.some x:=by obtain⟨y,e,rfl⟩:=h;exact e
theorem aW {a b:Int}(h: -9223372036854775808<=a+b:=by omega)(k:a+b<9223372036854775808:=by omega):aL .i64 a b=a+b:=zh ⟨h,k⟩
theorem bN {a b:Int}(h: -9223372036854775808<=a-b:=by omega)(k:a-b<9223372036854775808:=by omega):bo .i64 a b=a-b:=sub_id ⟨h,k⟩
theorem dh {a b:Int}(h: -9223372036854775808<=a*b:=by omega)(k:a*b<9223372036854775808:=by omega):cj .i64 a b=a*b:=mul_id ⟨h,k⟩
theorem qi {n:Int}(h: -9223372036854775808<=n:=by omega)(k:n<9223372036854775808:=by omega):an .i64 n=n:=DF ⟨h,k⟩
theorem gB {n:Int}:IntKind.wrap .u64 n=n%18446744073709551616:=by simp[IntKind.wrap,IntKind.bits,IntKind.signed]
theorem y9 {n:Int}:IntKind.wrap .u8 n=n%256:=by simp[IntKind.wrap,IntKind.bits,IntKind.signed]
theorem dl {n:Int}(h:0<=n:=by omega)(k:n<18446744073709551616:=by omega):an .u64 n=n:=by unfold an;rw[gB];exact jb h k
theorem HH {n:Int}(h:0<=n:=by omega)(k:n<256:=by omega):an .u8 n=n:=by unfold an;rw[y9];exact jb h k
theorem H2 {a b:Int}(h:0<=a+b:=by omega)(k:a+b<18446744073709551616:=by omega):aL .u64 a b=a+b:=dl h k
theorem IW {a b:Int}(h:0<=a*b:=by omega)(k:a*b<18446744073709551616:=by omega):cj .u64 a b=a*b:=dl h k
theorem cS {a b:Int}(h:0<=a:=by omega):gC a b=a%b:=mS h
theorem ig {a b:Int}(h:0<=a)(k:0<b)(l:a<9223372036854775808):nn .i64 a b=a/b:=by
 unfold nn
 rw[Int.tdiv_eq_ediv_of_nonneg h]
 have h1:0<=a/b:=qE h (je k)
 have h2:a/b<=a:=Int.ediv_le_self _ h
 exact fd ⟨by omega,by omega⟩
theorem j5 {α β:Type}{xs:List α}{ys:List β}(h:(xs.length:Int)+ys.length<=549755813888):dO xs ys=true:=aF h
theorem Km {a b:Int}(h:a<=b):jp a b=a:=by unfold jp;split<;>omega
theorem F8 {a b:Int}(h:b<=a):jp a b=b:=by unfold jp;split<;>omega
theorem imax_r {a b:Int}(h:a<=b):F7 a b=b:=by unfold F7;split<;>omega
theorem eu:bm true=false:=rfl
theorem eF:bm false=true:=rfl
theorem xe {a b:Int}:ltI a b=true↔a<b:=by simp[ltI]
theorem zZ {a b:Int}:leI a b=true↔a<=b:=by simp[leI]
theorem lJ {a b:Int}:eqI a b=true↔a=b:=by simp[eqI]
theorem lt_nf {a b:Int}:ltI a b=false↔b<=a:=by simp[ltI]
theorem le_nf {a b:Int}:leI a b=false↔b<a:=by simp[leI]
theorem FI {a b:Int}:eqI a b=false↔a≠b:=by simp[eqI]
theorem pd {a:Bool}:bm a=true↔a=false:=by cases a<;>simp[bm]
theorem vN {a:Bool}:bm a=false↔a=true:=by cases a<;>simp[bm]
theorem ue {a b:Bool}:br a (some true) (some b)=some (a||b):=by cases a<;>rfl
theorem tS {a b:Bool}:br a (some b) (some false)=some (a&&b):=by cases a<;>rfl
theorem am {α β γ:Type}{x:α}{f:α->γ}{g:β->γ}:ba (Sum.inl x) f g=f x:=rfl
theorem rC {α β γ:Type}{x:β}{f:α->γ}{g:β->γ}:ba (Sum.inr x) f g=g x:=rfl
end Go.Den
namespace Go.Den
open Go.ChangeShapes Go.WideShapes Go.RowKit
section
variable {P:Program}
end
end Go.Den
namespace Go.Den
open Go.RowKit (Below)
section
variable {P:Program}
end
end Go.Den
namespace Go.Den
open Go.RowKit (Below)
section
variable {P:Program}
end
end Go.Den
namespace Go.Den
open Go.RowKit (Below)
section
variable {P:Program}
def Hq:Array Value->Sem Value:=fun args=>do
 let (x,y,b) <-Extern.MathBitsCarry.three "Sub64" args
 pure (Extern.MathBitsCarry.pair ((x+Extern.MathBitsCarry.m64-y-b)%Extern.MathBitsCarry.m64) (if x<y+b then 1 else 0))
theorem Ew (x y b:Nat)(hy:y<18446744073709551616)(hb:b<=1)(w:World):
  (Hq #[.int .u64 x,.int .u64 y,.int .u64 b]).run P w= .ok (.tuple #[.int .u64 (rB x y b),.int .u64 (pw x y b)]) w:=by
 have e:(Hq #[.int .u64 x,.int .u64 y,.int .u64 b]).run P w=
   .ok (.tuple #[.int .u64 (((x+18446744073709551616-y-b)%18446744073709551616:Nat):Int),.int .u64 ((if x<y+b then 1 else 0:Nat):Int)]) w:=by
  have:b=0\/b=1:=by omega
  rcases this with rfl|rfl<;>rfl
 rw[e]
 unfold rB pw
 congr 4
 ·congr 1;omega
 ·congr 2
  by_cases h:x<y+b
  ·rw[aa h,aa (by omega)];rfl
  ·rw[ae h,ae (by omega)];rfl
theorem Ks {L:Lay}{g:FuncId}(m:Sem1)(hw:m.wr=[])
  (hc:∀(C:Cx) (args:List AV) (hs:List Blk) (cargs:Array Value) (α:Type) (k:AV->List Blk->Option α) (ans:α),jw (TR C) args cargs.toList->m.run α args hs k=some ans->
   hs=[]/\∃v r,(callFunc g cargs).run P C.w= .ok (.value v) C.w/\k r []=some ans/\TR C r v):uS P L g m:=by
 intro C args hs cargs hu hL hI hargs α k ans hr
 obtain⟨rfl,v,r,hrun,hk,hv⟩:=hc C args hs cargs α k ans hargs hr
 rw[hw]at hI|-
 intro o a next Q hn
 rw[hrun]
 have hO:Old (lT C 0 []) C:={keep:=fun i _=>BK.refl _ trivial,cell:=fun _ _ _ _ h=>h,ok:=fun _ h=>h}
 exact hn v C.w ⟨r,[],C,hk,rfl,hI.same rfl rfl rfl,hO,fun i hi=>(hu i).1 hi,hv⟩
theorem xC {C:Cx}{a b c:AV}{cargs:Array Value}(h:jw (TR C) [a,b,c] cargs.toList):∃x y z,cargs= #[x,y,z]/\TR C a x/\TR C b y/\TR C c z:=by
 obtain⟨l⟩:=cargs
 match l,h with
 |[x,y,z],h=>exact⟨x,y,z,rfl,h.1,h.2.1,h.2.2.1⟩
 |[],h=>exact h.elim
 |[_],h=>exact h.2.elim
 |[_,_],h=>exact h.2.2.elim
 |_::_::_::_::_,h=>exact h.2.2.2.elim
theorem H1 {L:Lay}{g:FuncId}{fn:Func}(hf:P.funcs[g]? =some fn)(hname:(fn.name== "runtime.NumGoroutine")=false)(hb:fn.body.isNone=true)(hn:Extern.findNext fn=none)(he:Extern.find fn=some add64Entry):uS P L g Cv:=by
 refine Ks _ rfl fun C args hs cargs α k ans hargs hr=>?_
 unfold Cv at hr
 dsimp only at hr
 split at hr
 ·rename_i a b c
  refine⟨rfl,?_⟩
  obtain⟨x,y,z,rfl,hx,hy,hz⟩:=xC hargs
  obtain rfl:x= .int .u64 a:=hx
  obtain rfl:y= .int .u64 b:=hy
  obtain rfl:z= .int .u64 c:=hz
  cases h1:y4 a with
  |false=>rw[h1]at hr;cases hr
  |true=>
   cases h2:y4 b with
   |false=>rw[h1,h2]at hr;cases hr
   |true=>
    cases h3:EN c with
    |false=>rw[h1,h2,h3]at hr;cases hr
    |true=>
     rw[h1,h2,h3,ag rfl,ag rfl,ag rfl]at hr
     have g1:=bh h1
     have g2:=bh h2
     have g3:=bh h3
     refine⟨_,_,?_,hr,⟨#[.int .u64 (uU a b c),.int .u64 (zg a b c)],rfl,⟨rfl,rfl,trivial⟩⟩⟩
     rw[run_callFunc_extern hf hname hb hn he,run_add64 a b c g1.1 g2.1 g3.1 g3.2];rfl
 ·cases hr
theorem JP {L:Lay}{g:FuncId}{fn:Func}(hf:P.funcs[g]? =some fn)(hname:(fn.name== "runtime.NumGoroutine")=false)(hb:fn.body.isNone=true)(hn:Extern.findNext fn=none)(he:Extern.find fn=some Hq):uS P L g AI:=by
 refine Ks _ rfl fun C args hs cargs α k ans hargs hr=>?_
 unfold AI at hr
 dsimp only at hr
 split at hr
 ·rename_i a b c
  refine⟨rfl,?_⟩
  obtain⟨x,y,z,rfl,hx,hy,hz⟩:=xC hargs
  obtain rfl:x= .int .u64 a:=hx
  obtain rfl:y= .int .u64 b:=hy
  obtain rfl:z= .int .u64 c:=hz
  cases h1:y4 a with
  |false=>rw[h1]at hr;cases hr
  |true=>
   cases h2:y4 b with
   |false=>rw[h1,h2]at hr;cases hr
   |true=>
    cases h3:EN c with
    |false=>rw[h1,h2,h3]at hr;cases hr
    |true=>
     rw[h1,h2,h3,ag rfl,ag rfl,ag rfl]at hr
     have g1:=bh h1
     have g2:=bh h2
     have g3:=bh h3
     obtain⟨A,rfl⟩:=bU g1.1
     obtain⟨B',rfl⟩:=bU g2.1
     obtain⟨K,rfl⟩:=bU g3.1
     refine⟨_,_,?_,hr,⟨#[.int .u64 (rB A B' K),.int .u64 (pw A B' K)],rfl,⟨rfl,rfl,trivial⟩⟩⟩
     rw[run_callFunc_extern hf hname hb hn he,Ew A B' K (by omega) (by omega)];rfl
 ·cases hr
end
end Go.Den
