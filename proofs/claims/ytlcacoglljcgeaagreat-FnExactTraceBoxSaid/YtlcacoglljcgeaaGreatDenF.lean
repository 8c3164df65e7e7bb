/- Theory for the proofs of this claim: see its last text. -/
import Derived.Test.YtlcacoglljcgeaaGreatDenG
import Derived.ChangeArms
import Derived.ChangeShapes
import Derived.WideShapes
import Derived.ChangeMaps5
import Derived.DataReads
import Derived.OpenShut
import Derived.Below
import Derived.Carry
import Derived.ChangeOld
import Derived.Test.YtlcacoglljcgeaaGreatDenA
import Derived.Lib.LaidTab
import Derived.Sort.Grow
import Derived.Deep.Draws
import Derived.HandedShaped
import Derived.Shelf.Vars
import Derived.Lib.Split
import Derived.Lib.ConvBytes
import Derived.Lib.UnsafeStr
namespace Go.Den
def AE:Tag->List VT
 | .i=>[.int .i64]
 | .u=>[.int .u8]
 | .b=>[.bool]
 | .s=>[.str]
 | .page=>[.int .i64,.int .i64,.str]
 | .ins=>[.int .i64,.int .i64,.int .i64,.int .i64,.int .i64,.int .i64,.int .i64,.int .i64,.int .i64,.int .i64,.int .i64,.int .i64,.int .i64,.int .i64,.int .i64,.int .i64,.int .i64,.int .i64,.int .i64]
 | .acc=>[.int .i64,.int .i64,.int .i64,.int .i64]
 | .seg=>[.int .i64,.int .i64,.int .i64,.str]
 | .stm=>[.int .i64,.int .i64,.int .i64,.int .i64]
 | .itm=>[.int .i64,.int .i64,.int .i64,.int .i64,.int .i64,.int .i64,.int .i64,.int .i64,.int .i64,.int .i64,.int .i64,.int .i64,.int .i64,.int .i64,.int .i64,.int .i64,.int .i64,.int .i64,.int .i64,.int .i64]
 | .brc=>[.int .i64,.int .i64]
 | .grp=>[.list .ins,.int .i64,.bool,.bool]
def fitV (q:(t:Tag)->El t->Prop):VT->AV->Prop
 | .bool,a=>∃b,a= .bool b
 | .int k,a=>∃n,a= .int k n/\(Lit.int k n).wf=true
 | .str,a=>∃s,a= .str s/\s.length<=maxLen
 | .list t,a=>∃xs,a= .list t xs/\xs.length<=maxLen/\∀x∈xs,q t x
 | .arr t n,a=>∃xs:List (El t),a= .arr t n xs/\xs.length=n/\∀x∈xs,q t x
 |_,_=>False
def uA (q:(t:Tag)->El t->Prop):List VT->List AV->Prop
 |[],[]=>True
 |t::l,a::as=>fitV q t a/\uA q l as
 |_,_=>False
def yi (t:Tag)(x:El t):Prop:=uA (fun _ _=>False) (AE t) (enc t x)
def vY (f:TypeId->List VT->Option (List VT))(T:Tr TI):Nat->List (Nat×TypeId)->List VT->Option (List VT)
 |_,[],l=>some l
 |o,(p,t)::r,l=>match Nat.beq o p,T.get t,f t l with
  |true,some ti,some l'=>vY f T (o+ti.size) r l'
  |_,_,_=>none
def th (T:Tr TI):List (Nat×TypeId)->Nat
 |[]=>0
 |(_,t)::r=>(match T.get t with|some ti=>ti.size|none=>0)+th T r
def noGrp:Tag->Bool
 | .grp=>false
 |_=>true
def pn (T:Tr TI):Nat->TypeId->List VT->Option (List VT)
 |0,_,_=>none
 |n+1,t,l=>match T.get t with
  |none=>none
  |some ti=>match ti.d,l with
   | .bool,.bool::r=>some r
   | .int k,.int j::r=>match mE k j with
    |true=>some r
    |false=>none
   | .str,.str::r=>some r
   | .slice e,.list tg::r=>match T.get e with
    |some te=>match Nat.beq te.size (esz tg)&&noGrp tg,pn T n e (AE tg)with
     |true,some []=>some r
     |_,_=>none
    |none=>none
   | .array m e,.arr .i j::r=>match Nat.beq m j&&Nat.beq m ti.size,T.get e with
    |true,some te=>match te.d,Nat.beq te.size 1 with
     | .int .i64,true=>some r
     |_,_=>none
    |_,_=>none
   | .struct fs,l=>match vY (pn T n) T 0 fs l with
    |some r=>match Nat.beq (th T fs) ti.size with
     |true=>some r
     |false=>none
    |none=>none
   |_,_=>none
theorem fK {q:(t:Tag)->El t->Prop}{t:VT}{l:List VT}:∀ {as:List AV},uA q (t::l) as->∃a r,as=a::r
 |[],h=>h.elim
 |a::r,_=>⟨a,r,rfl⟩
theorem iC {q:(t:Tag)->El t->Prop}:∀ {as:List AV},uA q [] as->as=[]
 |[],_=>rfl
 |_::_,h=>h.elim
theorem rb {q:(t:Tag)->El t->Prop}:∀ {l m:List VT} {as bs:List AV},uA q l as->uA q m bs->uA q (l++m) (as++bs)
 |[],_,[],_,_,h=>h
 |[],_,_::_,_,h,_=>h.elim
 |_::_,_,[],_,h,_=>h.elim
 |_::_,_,_::_,_,h,k=>⟨h.1,rb h.2 k⟩
theorem c7 {q:(t:Tag)->El t->Prop}{k:IntKind}{l:List VT}{as:List AV}(h:uA q (.int k::l) as):∃n r,as= .int k n::r/\(Lit.int k n).wf=true/\uA q l r:=by
 obtain⟨a,r,rfl⟩:=fK h
 obtain⟨⟨x,rfl,w⟩,h⟩:=h
 exact⟨x,r,rfl,w,h⟩
theorem fit_s {q:(t:Tag)->El t->Prop}{l:List VT}{as:List AV}(h:uA q (.str::l) as):∃n r,as= .str n::r/\n.length<=maxLen/\uA q l r:=by
 obtain⟨a,r,rfl⟩:=fK h
 obtain⟨⟨x,rfl,w⟩,h⟩:=h
 exact⟨x,r,rfl,w,h⟩
theorem fit_b {q:(t:Tag)->El t->Prop}{l:List VT}{as:List AV}(h:uA q (.bool::l) as):∃n r,as= .bool n::r/\uA q l r:=by
 obtain⟨a,r,rfl⟩:=fK h
 obtain⟨⟨x,rfl⟩,h⟩:=h
 exact⟨x,r,rfl,h⟩
theorem HO:∀(t:Tag),t≠ .grp->∀(as:List AV),uA yi (AE t) as->∃x:El t,enc t x=as/\yi t x
 | .i,_,as,h=>by
  obtain⟨x0,s0,rfl,w0,h⟩:=c7 h
  obtain rfl:=iC h
  exact⟨(x0:El .i),rfl,⟨x0,rfl,w0⟩,trivial⟩
 | .u,_,as,h=>by
  obtain⟨x0,s0,rfl,w0,h⟩:=c7 h
  obtain rfl:=iC h
  exact⟨(x0:El .u),rfl,⟨x0,rfl,w0⟩,trivial⟩
 | .b,_,as,h=>by
  obtain⟨x0,s0,rfl,e⟩:=fit_b h
  obtain rfl:=iC e
  exact⟨(x0:El .b),rfl,⟨x0,rfl⟩,trivial⟩
 | .s,_,as,h=>by
  obtain⟨x0,s0,rfl,w0,h⟩:=fit_s h
  obtain rfl:=iC h
  exact⟨(x0:El .s),rfl,⟨x0,rfl,w0⟩,trivial⟩
 | .page,_,as,h=>by
  obtain⟨x0,s0,rfl,w0,h⟩:=c7 h
  obtain⟨x1,s1,rfl,w1,h⟩:=c7 h
  obtain⟨x2,s2,rfl,w2,h⟩:=fit_s h
  obtain rfl:=iC h
  exact⟨(⟨x0,x1,x2⟩:El .page),rfl,⟨x0,rfl,w0⟩,⟨x1,rfl,w1⟩,⟨x2,rfl,w2⟩,trivial⟩
 | .ins,_,as,h=>by
  obtain⟨x0,s0,rfl,w0,h⟩:=c7 h
  obtain⟨x1,s1,rfl,w1,h⟩:=c7 h
  obtain⟨x2,s2,rfl,w2,h⟩:=c7 h
  obtain⟨x3,s3,rfl,w3,h⟩:=c7 h
  obtain⟨x4,s4,rfl,w4,h⟩:=c7 h
  obtain⟨x5,s5,rfl,w5,h⟩:=c7 h
  obtain⟨x6,s6,rfl,w6,h⟩:=c7 h
  obtain⟨x7,s7,rfl,w7,h⟩:=c7 h
  obtain⟨x8,s8,rfl,w8,h⟩:=c7 h
  obtain⟨x9,s9,rfl,w9,h⟩:=c7 h
  obtain⟨x10,s10,rfl,w10,h⟩:=c7 h
  obtain⟨x11,s11,rfl,w11,h⟩:=c7 h
  obtain⟨x12,s12,rfl,w12,h⟩:=c7 h
  obtain⟨x13,s13,rfl,w13,h⟩:=c7 h
  obtain⟨x14,s14,rfl,w14,h⟩:=c7 h
  obtain⟨x15,s15,rfl,w15,h⟩:=c7 h
  obtain⟨x16,s16,rfl,w16,h⟩:=c7 h
  obtain⟨x17,s17,rfl,w17,h⟩:=c7 h
  obtain⟨x18,s18,rfl,w18,h⟩:=c7 h
  obtain rfl:=iC h
  exact⟨(⟨x0,x1,x2,x3,⟨x4,x5,x6,x7,x8,x9,x10⟩,⟨x11,x12,x13,x14,x15,x16,x17⟩,x18⟩:El .ins),rfl,⟨x0,rfl,w0⟩,⟨x1,rfl,w1⟩,⟨x2,rfl,w2⟩,⟨x3,rfl,w3⟩,⟨x4,rfl,w4⟩,⟨x5,rfl,w5⟩,⟨x6,rfl,w6⟩,⟨x7,rfl,w7⟩,⟨x8,rfl,w8⟩,⟨x9,rfl,w9⟩,⟨x10,rfl,w10⟩,⟨x11,rfl,w11⟩,⟨x12,rfl,w12⟩,⟨x13,rfl,w13⟩,⟨x14,rfl,w14⟩,⟨x15,rfl,w15⟩,⟨x16,rfl,w16⟩,⟨x17,rfl,w17⟩,⟨x18,rfl,w18⟩,trivial⟩
 | .acc,_,as,h=>by
  obtain⟨x0,s0,rfl,w0,h⟩:=c7 h
  obtain⟨x1,s1,rfl,w1,h⟩:=c7 h
  obtain⟨x2,s2,rfl,w2,h⟩:=c7 h
  obtain⟨x3,s3,rfl,w3,h⟩:=c7 h
  obtain rfl:=iC h
  exact⟨(⟨x0,x1,x2,x3⟩:El .acc),rfl,⟨x0,rfl,w0⟩,⟨x1,rfl,w1⟩,⟨x2,rfl,w2⟩,⟨x3,rfl,w3⟩,trivial⟩
 | .seg,_,as,h=>by
  obtain⟨x0,s0,rfl,w0,h⟩:=c7 h
  obtain⟨x1,s1,rfl,w1,h⟩:=c7 h
  obtain⟨x2,s2,rfl,w2,h⟩:=c7 h
  obtain⟨x3,s3,rfl,w3,h⟩:=fit_s h
  obtain rfl:=iC h
  exact⟨(⟨x0,x1,x2,x3⟩:El .seg),rfl,⟨x0,rfl,w0⟩,⟨x1,rfl,w1⟩,⟨x2,rfl,w2⟩,⟨x3,rfl,w3⟩,trivial⟩
 | .stm,_,as,h=>by
  obtain⟨x0,s0,rfl,w0,h⟩:=c7 h
  obtain⟨x1,s1,rfl,w1,h⟩:=c7 h
  obtain⟨x2,s2,rfl,w2,h⟩:=c7 h
  obtain⟨x3,s3,rfl,w3,h⟩:=c7 h
  obtain rfl:=iC h
  exact⟨(⟨x0,x1,x2,x3⟩:El .stm),rfl,⟨x0,rfl,w0⟩,⟨x1,rfl,w1⟩,⟨x2,rfl,w2⟩,⟨x3,rfl,w3⟩,trivial⟩
 | .itm,_,as,h=>by
  obtain⟨x0,s0,rfl,w0,h⟩:=c7 h
  obtain⟨x1,s1,rfl,w1,h⟩:=c7 h
  obtain⟨x2,s2,rfl,w2,h⟩:=c7 h
  obtain⟨x3,s3,rfl,w3,h⟩:=c7 h
  obtain⟨x4,s4,rfl,w4,h⟩:=c7 h
  obtain⟨x5,s5,rfl,w5,h⟩:=c7 h
  obtain⟨x6,s6,rfl,w6,h⟩:=c7 h
  obtain⟨x7,s7,rfl,w7,h⟩:=c7 h
  obtain⟨x8,s8,rfl,w8,h⟩:=c7 h
  obtain⟨x9,s9,rfl,w9,h⟩:=c7 h
  obtain⟨x10,s10,rfl,w10,h⟩:=c7 h
  obtain⟨x11,s11,rfl,w11,h⟩:=c7 h
  obtain⟨x12,s12,rfl,w12,h⟩:=c7 h
  obtain⟨x13,s13,rfl,w13,h⟩:=c7 h
  obtain⟨x14,s14,rfl,w14,h⟩:=c7 h
  obtain⟨x15,s15,rfl,w15,h⟩:=c7 h
  obtain⟨x16,s16,rfl,w16,h⟩:=c7 h
  obtain⟨x17,s17,rfl,w17,h⟩:=c7 h
  obtain⟨x18,s18,rfl,w18,h⟩:=c7 h
  obtain⟨x19,s19,rfl,w19,h⟩:=c7 h
  obtain rfl:=iC h
  exact⟨(⟨x0,⟨x1,x2,x3,x4,⟨x5,x6,x7,x8,x9,x10,x11⟩,⟨x12,x13,x14,x15,x16,x17,x18⟩,x19⟩⟩:El .itm),rfl,⟨x0,rfl,w0⟩,⟨x1,rfl,w1⟩,⟨x2,rfl,w2⟩,⟨x3,rfl,w3⟩,⟨x4,rfl,w4⟩,⟨x5,rfl,w5⟩,⟨x6,rfl,w6⟩,⟨x7,rfl,w7⟩,⟨x8,rfl,w8⟩,⟨x9,rfl,w9⟩,⟨x10,rfl,w10⟩,⟨x11,rfl,w11⟩,⟨x12,rfl,w12⟩,⟨x13,rfl,w13⟩,⟨x14,rfl,w14⟩,⟨x15,rfl,w15⟩,⟨x16,rfl,w16⟩,⟨x17,rfl,w17⟩,⟨x18,rfl,w18⟩,⟨x19,rfl,w19⟩,trivial⟩
 | .brc,_,as,h=>by
  obtain⟨x0,s0,rfl,w0,h⟩:=c7 h
  obtain⟨x1,s1,rfl,w1,h⟩:=c7 h
  obtain rfl:=iC h
  exact⟨(⟨x0,x1⟩:El .brc),rfl,⟨x0,rfl,w0⟩,⟨x1,rfl,w1⟩,trivial⟩
 | .grp,hg,_,_=>absurd rfl hg
section
variable {P:Program}{T:Tr TI}{C:Cx}{H:Type}{enc':TypeId×Value->H}
theorem jK (hT:TOK P T){t:TypeId}{ti:TI}(ht:T.get t=some ti):P.cellsOf t=ti.size:=by
 obtain⟨i,d,F⟩:=hT.fact ht
 have:=F.size
 have hi:=F.info
 simp[Program.cellsOf,hi,this]
theorem D5 (cs:List AV):jO cs 0=0:=by cases cs<;>rfl
theorem CR.one {a:AV}{g:Nat->Option Value}(h:ER C a g 0):CR C [a] g:=CR.mk h fun i a ha=>by simp at ha
theorem Dc (hT:TOK P T){f:TypeId->List VT->Option (List VT)}{cs:List Value}{m:Nat}
  (hf:∀t l r us,f t l=some r->(∃x,DataW.trod enc' P C.w 0 (fun _=>true) true m t us=some x)->∃(l1:List VT) (as:List AV),l=l1++r/\uA yi l1 as/\aY as=us.length/\CR C as (fun o=>us[o]?)):
  ∀(fs:List (Nat×TypeId)) (gs:List Field) (o:Nat) (l r:List VT),df.fieldsOK fs gs=true->vY f T o fs l=some r->o+th T fs<=cs.length->
   (∀g∈gs,∃x,DataW.trod enc' P C.w 0 (fun _=>true) true m g.type ((cs.drop g.offset).take (P.cellsOf g.type))=some x)->
   ∃(l1:List VT) (as:List AV),l=l1++r/\uA yi l1 as/\aY as=th T fs/\CR C as (fun k=>cs[o+k]?)
 |[],[],o,l,r,_,h,_,_=>by
  simp only[vY,Option.some.injEq]at h
  exact⟨[],[],h,trivial,rfl,fun i a ha=>by simp at ha⟩
 |[],_::_,_,_,_,h,_,_,_=>by simp[df.fieldsOK]at h
 |_::_,[],_,_,_,h,_,_,_=>by simp[df.fieldsOK]at h
 |(p,t)::fs,g::gs,o,l,r,hd,h,hs,hr=>by
  simp only[df.fieldsOK,Bool.and_eq_true,iu]at hd
  obtain⟨rfl,rfl,hd⟩:=hd
  simp only[vY]at h
  split at h
  ·rename_i ti l' ho ht hfl
   obtain rfl:=iu.1 ho
   have hsz:=jK hT ht
   simp only[th,ht]at hs
   obtain⟨l1,as,h1,h2,h3,h4⟩:=hf _ _ _ _ hfl (hr g (List.mem_cons_self ..))
   obtain⟨l2,bs,k1,k2,k3,k4⟩:=Dc hT hf fs gs (g.offset+ti.size) l' r hd h (by omega) fun g' hg=>hr g' (List.mem_cons_of_mem _ hg)
   rw[hsz]at h3 h4
   have hw:aY as=ti.size:=by rw[h3,List.length_take,List.length_drop];omega
   refine⟨l1++l2,as++bs,by rw[h1,k1,List.append_assoc],rb h2 k2,by rw[bo,hw,k3];simp only[th,ht],CR.append (h4.congr fun k hk=>?_) ?_⟩
   ·rw[List.getElem?_take_of_lt (by omega),List.getElem?_drop]
   ·rw[hw]
    have e:∀k,g.offset+ti.size+k=g.offset+(ti.size+k):=fun k=>by omega
    simp only[e]at k4
    exact k4
  ·cases h
theorem yI {α:Type}{p:Nat->α->Prop}:∀(n:Nat),(∀i,i<n->∃a,p i a)->∃l:List α,l.length=n/\∀(i:Nat) a,l[i]? =some a->p i a
 |0,_=>⟨[],rfl,fun i a h=>by simp at h⟩
 |n+1,h=>by
  obtain⟨l,h1,h2⟩:=yI n fun i hi=>h i (by omega)
  obtain⟨a,ha⟩:=h n (by omega)
  refine⟨l++[a],by simp[h1],fun i b hb=>?_⟩
  by_cases hi:i<n
  ·rw[List.getElem?_append_left (by omega)]at hb;exact h2 i b hb
  ·rw[List.getElem?_append_right (by omega)]at hb
   by_cases he:i=n
   ·subst he;rw[h1,Nat.sub_self]at hb;simp at hb;subst hb;exact ha
   ·rw[List.getElem?_eq_none (by simp;omega)]at hb;cases hb
theorem Ah {t:Tag}(h:noGrp t=true):t≠ .grp:=by rintro rfl;cases h
theorem vr_r1 {t:Tag}(hg:t≠ .grp){x:El t}{a:AV}(ha:a∈enc t x){v:Value}(h:VR C a v){w:World}{ok:Nat->Prop}:R1 w ok a v:=by
 have key:(∃b,a= .bool b)\/(∃k n,a= .int k n)\/∃s,a= .str s:=by
  cases t<;>simp[enc,Fm]at ha hg<;>simp_all
  all_goals first
   |(rcases ha with rfl|rfl|rfl|rfl<;>simp)
   |(rcases ha with rfl|rfl|rfl<;>simp)
   |(rcases ha with rfl|rfl<;>simp)
   |(rcases ha with rfl|rfl|rfl|rfl|rfl|rfl|rfl|rfl|rfl|rfl|rfl|rfl|rfl|rfl|rfl|rfl|rfl|rfl|rfl<;>simp)
   |(rcases ha with rfl|rfl|rfl|rfl|rfl|rfl|rfl|rfl|rfl|rfl|rfl|rfl|rfl|rfl|rfl|rfl|rfl|rfl|rfl|rfl<;>simp)
 left
 rcases key with ⟨b,rfl⟩|⟨k,n,rfl⟩|⟨s,rfl⟩<;>(obtain rfl:=h;rfl)
theorem oA (hT:TOK P T)(hok:∀c,c<C.w.heap.size->C.ok c):∀(fuel n:Nat) (t:TypeId) (l r:List VT) (cs:List Value) (x:DataW H×List MemPlace),
  pn T n t l=some r->DataW.trod enc' P C.w 0 (fun _=>true) true fuel t cs=some x->
  ∃(l1:List VT) (as:List AV),l=l1++r/\uA yi l1 as/\aY as=cs.length/\CR C as (fun o=>cs[o]?)
 |0,_,_,_,_,_,_,_,h=>by simp[DataW.trod]at h
 |fuel+1,0,_,_,_,_,_,h,_=>by cases h
 |fuel+1,n+1,t,l,r,cs,x,h,hx=>by
  simp only[pn]at h
  split at h
  ·cases h
  ·rename_i ti ht
   obtain⟨i,d,F⟩:=hT.fact ht
   have hd:=F.desc
   have hu:=F.und
   split at h
   ·
    rename_i e
    obtain rfl:=Option.some.inj h
    rw[e]at hd;cases d<;>simp[df]at hd
    obtain⟨b,rfl,_⟩:=DataW.trod_bool hu hx
    exact⟨[.bool],[.bool b],rfl,⟨⟨b,rfl⟩,trivial⟩,rfl,CR.one ⟨_,rfl,rfl⟩⟩
   ·
    rename_i k j r' e
    split at h
    ·rename_i hk
     obtain rfl:=Option.some.inj h
     obtain rfl:=fc.1 hk
     rw[e]at hd;cases d<;>simp[df]at hd
     obtain rfl:=fc.1 hd
     obtain⟨m,rfl,_,hw⟩:=DataW.trod_int hu hx
     exact⟨[.int _],[.int _ m],rfl,⟨⟨m,rfl,hw⟩,trivial⟩,rfl,CR.one ⟨_,rfl,rfl⟩⟩
    ·cases h
   ·
    rename_i e
    obtain rfl:=Option.some.inj h
    rw[e]at hd;cases d<;>simp[df]at hd
    obtain⟨s,rfl,_,hw⟩:=DataW.trod_string hu hx
    exact⟨[.str],[.str s.data.toList],rfl,⟨⟨_,rfl,by rw[Array.length_toList];exact hw⟩,trivial⟩,rfl,CR.one ⟨_,rfl,by show Value.string s=_;simp⟩⟩
   ·
    rename_i e tg r' hde
    split at h
    ·rename_i te hte
     split at h
     ·rename_i hc hce
      obtain rfl:=Option.some.inj h
      simp only[Bool.and_eq_true]at hc
      have hsz:=(jK hT hte).trans (iu.1 hc.1)
      have hng:=Ah hc.2
      rw[hde]at hd;cases d<;>simp[df]at hd
      obtain rfl:=hd
      rcases DataW.trod_slice hu hx with ⟨rfl,_⟩|⟨a,len,cap,elems,rest,m,hm,rfl,_,_,hlc,hcm,hel,hget,_,_⟩
      ·exact⟨[.list tg],[.list tg []],rfl,⟨⟨[],rfl,Nat.zero_le _,by simp⟩,trivial⟩,rfl,CR.one ⟨_,rfl,none,0,rfl,Nat.le_refl _,.inl rfl⟩⟩
      ·obtain rfl:fuel=m:=by omega
       have hone:∀i,i<len->∃y:El tg,yi tg y/\∀j b,(enc tg y)[j]? =some b->∃v,C.w.cell? ((a.add (i*esz tg)).add j)=some v/\R1 C.w C.ok b v:=by
        intro i hi
        have h1:=hget i hi
        have hi':i<elems.length:=by omega
        rw[List.getElem?_eq_getElem hi',hsz,Option.bind_eq_some_iff]at h1
        obtain⟨us,h2,h3⟩:=h1
        obtain⟨_,h4,h5⟩:=World.cells?_some h2
        obtain⟨l1,as,k1,k2,k3,k4⟩:=oA hT hok fuel n _ _ _ _ _ hce h3
        rw[List.append_nil]at k1
        subst k1
        obtain⟨y,rfl,hy⟩:=HO tg hng as k2
        refine⟨y,hy,fun j b hb=>?_⟩
        have hj:j<(enc tg y).length:=(List.getElem?_eq_some_iff.1 hb).1
        have:=k4 j b hb
        rw[iw _ (gG tg y) j (by omega)]at this
        obtain⟨v,hv,hr⟩:=(ER.of_one (jg tg y b (List.mem_of_getElem? hb))).1 this
        rw[dy]at hj
        exact⟨v,(h5 j (by omega)).trans hv,vr_r1 hng (List.mem_of_getElem? hb) hr⟩
       obtain⟨ys,hy1,hy2⟩:=yI len hone
       refine⟨[.list tg],[.list tg ys],rfl,⟨⟨ys,rfl,by omega,fun y hy=>?_⟩,trivial⟩,rfl,CR.one ⟨_,rfl,some a,cap,by rw[hy1],by omega,?_⟩⟩
       ·obtain⟨i,hi⟩:=List.getElem?_of_mem hy
        exact(hy2 i y hi).1
       ·cases hys:ys with
        |nil=>exact .inl rfl
        |cons y0 yr=>
         right
         have h0:=(hy2 0 y0 (by rw[hys];rfl)).2
         have hpos:0<(enc tg y0).length:=by rw[dy];exact qX tg
         obtain⟨v,hv,_⟩:=h0 0 _ (List.getElem?_eq_getElem hpos)
         simp only[Nat.zero_mul,Addr.add,if_true]at hv
         have hspot:=World.cell?_spot hv
         have hlt:a.block<C.w.heap.size:=by
          unfold World.cell? at hv
          split at hv
          ·rename_i hh;exact(Array.getElem?_eq_some_iff.1 hh).1
          ·cases hv
         refine⟨a.block,a.off,?_,hok _ hlt,fun i y hi j b hb=>?_⟩
         ·rw[<-hspot]
         ·rw[<-hys]at hi
          obtain⟨v,hv,hr⟩:=(hy2 i y hi).2 j b hb
          refine⟨v,?_,hr⟩
          rw[<-hv]
          congr 1
          obtain⟨ab,ao,asp⟩:=a
          obtain rfl:asp=none:=hspot
          simp only[Addr.add]
          by_cases e1:i*esz tg=0<;>by_cases e2:j=0<;>simp[e1,e2]
     ·cases h
    ·cases h
   ·
    rename_i m e j r' hde
    split at h
    ·rename_i te hmj hte
     split at h
     ·rename_i hed h1
      obtain rfl:=Option.some.inj h
      simp only[Bool.and_eq_true]at hmj
      obtain rfl:=iu.1 hmj.1
      have hm:=iu.1 hmj.2
      rw[hde]at hd;cases d<;>simp[df]at hd
      obtain⟨hd1,hd2⟩:=hd
      obtain rfl:=hd1
      obtain rfl:=hd2
      have hsz:=(jK hT hte).trans (iu.1 h1)
      obtain⟨xs,q,hq,_,hlen,hxl,hget⟩:=DataW.trod_array hu hx
      obtain⟨ie,de,Fe⟩:=hT.fact hte
      have hde:=Fe.desc
      rw[hed]at hde
      have hue:=Fe.und
      cases de<;>simp[df]at hde
      obtain rfl:=fc.1 hde
      rw[jK hT ht,<-hm]at hlen
      have hone:∀i,i<m->∃z:Int,(Lit.int .i64 z).wf=true/\cs[i]? =some (.int .i64 z):=by
       intro i hi
       have h2:=hget i hi
       rw[List.getElem?_eq_getElem (by omega),hsz,Nat.mul_one]at h2
       obtain⟨z,hz,_,hw⟩:=DataW.trod_int hue h2
       refine⟨z,hw,?_⟩
       have:=congrArg (·[0]?) hz
       simpa[List.getElem?_take]using this
      obtain⟨zs,hz1,hz2⟩:=yI m hone
      refine⟨[.arr .i m],[.arr .i m zs],rfl,⟨⟨zs,rfl,hz1,fun z hz=>?_⟩,trivial⟩,by simp[aY,AV.width,hlen],CR.one fun j hj=>?_⟩
      ·obtain⟨i,hi⟩:=List.getElem?_of_mem hz
       exact⟨⟨z,rfl,(hz2 i z hi).1⟩,trivial⟩
      ·have hj':j<zs.length:=by omega
       have h3:=(hz2 j _ (List.getElem?_eq_getElem hj')).2
       refine⟨_,.int .i64 zs[j],by simpa using h3,?_,rfl⟩
       simp[enc,aR,List.getD,List.getElem?_eq_getElem hj']
     ·cases h
    ·cases h
   ·
    rename_i l0 _ _ fs hde
    split at h
    ·rename_i r' hfs
     split at h
     ·rename_i hsz
      obtain rfl:=Option.some.inj h
      have hsz:=iu.1 hsz
      rw[hde]at hd;cases d<;>simp[df]at hd
      rename_i gs
      obtain⟨xs,m,hm,_,hlen,hxl,hget⟩:=DataW.trod_struct hu hx
      obtain rfl:fuel=m:=by omega
      rw[jK hT ht]at hlen
      obtain⟨l1,as,h1,h2,h3,h4⟩:=Dc (enc':=enc') (C:=C) (cs:=cs) hT (f:=pn T n) (m:=fuel) (fun t l r us hf ⟨y,hy⟩=>oA hT hok fuel n t l r us y hf hy) fs gs.toList 0 l0 r' hd hfs (by omega) fun g hg=>by
       obtain⟨i,hi⟩:=List.getElem?_of_mem hg
       have hi':i<xs.length:=by rw[hxl];have:=(List.getElem?_eq_some_iff.1 hi).1;simpa using this
       exact⟨xs[i],(hget i g (by simpa using hi)).trans (List.getElem?_eq_getElem hi')⟩
      exact⟨l1,as,h1,h2,by rw[h3,hsz,hlen],by simpa using h4⟩
     ·cases h
    ·cases h
   ·cases h
end
end Go.Den
namespace Go.Den
open Go.RowKit (Below)
mutual
def VT.wf:(v:VT)->v.Ty->Prop
 | .bool,_=>True
 | .int k,n=>(Lit.int k n).wf=true
 | .str,s=>s.length<=maxLen
 | .list t,xs=>xs.length<=maxLen/\∀x∈xs,yi t x
 | .el t,x=>yi t x
 | .arr t n,xs=>xs.length=n/\∀x∈xs,yi t x
 | .konst _,_=>True
 | .agg l,x=>VTL.wf l x
def VTL.wf:(l:List VT)->VTL.Ty l->Prop
 |[],_=>True
 | .konst _::r,x=>VTL.wf r x
 | .bool::r,x=>VTL.wf r x.2
 | .int k::r,x=>VT.wf (.int k) x.1/\VTL.wf r x.2
 | .str::r,x=>VT.wf .str x.1/\VTL.wf r x.2
 | .list t::r,x=>VT.wf (.list t) x.1/\VTL.wf r x.2
 | .el t::r,x=>VT.wf (.el t) x.1/\VTL.wf r x.2
 | .arr t n::r,x=>VT.wf (.arr t n) x.1/\VTL.wf r x.2
 | .agg l::r,x=>VT.wf (.agg l) x.1/\VTL.wf r x.2
end
theorem lO:∀(l:List VT) (as:List AV),uA yi l as->∃y:VTL.Ty l,VTL.un l y=as/\VTL.wf l y
 |[],as,h=>by
  obtain rfl:=iC h
  exact⟨(),rfl,trivial⟩
 | .konst c::l,as,h=>by
  obtain⟨a,r,rfl⟩:=fK h
  exact h.1.elim
 | .el t::l,as,h=>by
  obtain⟨a,r,rfl⟩:=fK h
  exact h.1.elim
 | .agg m::l,as,h=>by
  obtain⟨a,r,rfl⟩:=fK h
  exact h.1.elim
 | .bool::l,as,h=>by
  obtain⟨a,r,rfl⟩:=fK h
  obtain⟨⟨b,rfl⟩,h⟩:=h
  obtain⟨y,rfl,hw⟩:=lO l r h
  exact⟨(b,y),rfl,hw⟩
 | .int k::l,as,h=>by
  obtain⟨a,r,rfl⟩:=fK h
  obtain⟨⟨b,rfl,w⟩,h⟩:=h
  obtain⟨y,rfl,hw⟩:=lO l r h
  exact⟨(b,y),rfl,w,hw⟩
 | .str::l,as,h=>by
  obtain⟨a,r,rfl⟩:=fK h
  obtain⟨⟨b,rfl,w⟩,h⟩:=h
  obtain⟨y,rfl,hw⟩:=lO l r h
  exact⟨(b,y),rfl,w,hw⟩
 | .list t::l,as,h=>by
  obtain⟨a,r,rfl⟩:=fK h
  obtain⟨⟨b,rfl,w⟩,h⟩:=h
  obtain⟨y,rfl,hw⟩:=lO l r h
  exact⟨(b,y),rfl,w,hw⟩
 | .arr t n::l,as,h=>by
  obtain⟨a,r,rfl⟩:=fK h
  obtain⟨⟨b,rfl,w⟩,h⟩:=h
  obtain⟨y,rfl,hw⟩:=lO l r h
  exact⟨(b,y),rfl,w,hw⟩
def tp:Option (List VT)->Bool
 |some []=>true
 |_=>false
def Fi (T:Tr TI)(t:TypeId):Bool:=match T.get t with
 |some ti=>ti.agg
 |none=>false
def FI (T:Tr TI)(t:TypeId):VT->Bool
 | .agg l=>Fi T t&&tp (pn T 12 t l)
 | .el tg=>Fi T t&&(noGrp tg&&tp (pn T 12 t (AE tg)))
 | .konst _=>false
 |v=> !Fi T t&&tp (pn T 12 t [v])
def Ct (T:Tr TI):List TypeId->List VT->Bool
 |[],[]=>true
 |t::ts,v::vs=>FI T t v&&Ct T ts vs
 |_,_=>false
section
variable {P:Program}{T:Tr TI}{C:Cx}{H:Type}{enc':TypeId×Value->H}
theorem wA {o:Option (List VT)}(h:tp o=true):o=some []:=by
 cases o with
 |none=>cases h
 |some l=>cases l<;>first|rfl|cases h
theorem agg_val {b:Nat}(hT:TOK P T){t:TypeId}{v:Value}(hv:Value.okWide P C.w .any b t v)(ha:Fi T t=true):∃cs,v= .agg cs:=by
 unfold Fi at ha
 split at ha
 ·rename_i ti ht
  obtain⟨i,d,F⟩:=hT.fact ht
  have hd:=F.desc
  have hu:=F.und
  unfold TI.agg at ha
  unfold Value.okWide at hv
  rw[hu]at hv
  split at ha
  ·rename_i e;rw[e]at hd;cases d<;>simp[df]at hd
   obtain⟨cs,h,_⟩:=hv;exact⟨cs,h⟩
  ·rename_i e;rw[e]at hd;cases d<;>simp[df]at hd
   obtain⟨cs,h,_⟩:=hv;exact⟨cs,h⟩
  ·cases ha
 ·cases ha
theorem one_val {b:Nat}(hT:TOK P T){t:TypeId}{v:Value}(hv:Value.okWide P C.w .any b t v)(ha:Fi T t=false){n:Nat}{vt:VT}(hc:pn T n t [vt]=some []):v.cells= #[v]:=by
 cases n with
 |zero=>cases hc
 |succ n=>
  simp only[pn]at hc
  split at hc
  ·cases hc
  ·rename_i ti ht
   obtain⟨i,d,F⟩:=hT.fact ht
   have hd:=F.desc
   have hu:=F.und
   unfold Fi at ha
   rw[ht]at ha
   dsimp only at ha
   unfold TI.agg at ha
   unfold Value.okWide at hv
   rw[hu]at hv
   cases hdd:ti.d<;>rw[hdd]at hd ha hc<;>first|(cases ha;done)|skip
   all_goals (cases d<;>simp[df]at hd<;>simp only[Cell.okWide,hu]at hv<;>cases v<;>first|rfl|(simp[Cell.ok,hu]at hv;done)|(simp at hc;done))
theorem FJ {b:Nat}(hT:TOK P T)(hok:∀c,c<C.w.heap.size->C.ok c){t:TypeId}{v:Value}{d:DataW H}{ps:List MemPlace}(hv:Value.okWide P C.w .any b t v)(hd:DataW.Trod enc' P C.w 0 (fun _=>true) true t v d ps):
  ∀(vt:VT),FI T t vt=true->∃x:vt.Ty,TR C (vt.un x) v/\vt.wf x:=by
 obtain⟨fuel,hf⟩:=hd
 have one:∀vt:VT,Fi T t=false->tp (pn T 12 t [vt])=true->∃a,fitV yi vt a/\VR C a v:=by
  intro vt ha hc
  have hc:=wA hc
  have hcell:=one_val hT hv ha hc
  rw[hcell]at hf
  obtain⟨l1,as,h1,h2,_,h4⟩:=oA hT hok _ _ _ _ _ _ _ hc hf
  rw[List.append_nil]at h1
  subst h1
  obtain⟨a,r,rfl⟩:=fK h2
  have he:=h4 0 a rfl
  rw[D5]at he
  refine⟨a,h2.1,?_⟩
  have hna:(∀t n xs,a≠ .arr t n xs)\/∃t n,vt= .arr t n:=by
   cases vt with
   |arr t n=>exact .inr ⟨t,n,rfl⟩
   |bool=>obtain⟨⟨b,rfl⟩,_⟩:=h2;exact .inl (by simp)
   |int k=>obtain⟨⟨b,rfl,_⟩,_⟩:=h2;exact .inl (by simp)
   |str=>obtain⟨⟨b,rfl,_⟩,_⟩:=h2;exact .inl (by simp)
   |list t=>obtain⟨⟨b,rfl,_⟩,_⟩:=h2;exact .inl (by simp)
   |_=>exact h2.1.elim
  rcases hna with hna|⟨t',n,rfl⟩
  ·obtain⟨u,hu,hr⟩:=(ER.of_one hna).1 he
   simp at hu;subst hu;exact hr
  ·
   exfalso
   simp only[pn]at hc
   unfold Fi at ha
   split at hc
   ·cases hc
   ·rename_i ti ht
    rw[ht]at ha
    dsimp only at ha
    unfold TI.agg at ha
    cases hdd:ti.d<;>rw[hdd]at hc ha<;>first|(cases ha;done)|(cases hc;done)
 have agg:∀l:List VT,Fi T t=true->tp (pn T 12 t l)=true->∃as,uA yi l as/\TR C (.agg as) v:=by
  intro l ha hc
  have hc:=wA hc
  obtain⟨cs,rfl⟩:=agg_val hT hv ha
  obtain⟨l1,as,h1,h2,h3,h4⟩:=oA hT hok _ _ _ _ _ _ _ hc hf
  rw[List.append_nil]at h1
  subst h1
  exact⟨as,h2,cs,rfl,by rw[h3];simp[Value.cells],by simpa[Value.cells]using h4⟩
 intro vt hvt
 cases vt with
 |konst c=>cases hvt
 |agg l=>
  simp only[FI,Bool.and_eq_true]at hvt
  obtain⟨as,h1,h2⟩:=agg l hvt.1 hvt.2
  obtain⟨y,rfl,hw⟩:=lO l as h1
  exact⟨y,h2,hw⟩
 |el tg=>
  simp only[FI,Bool.and_eq_true]at hvt
  obtain⟨as,h1,h2⟩:=agg _ hvt.1 hvt.2.2
  obtain⟨y,rfl,hw⟩:=HO tg (Ah hvt.2.1) as h1
  exact⟨y,h2,hw⟩
 |bool=>
  simp only[FI,Bool.and_eq_true,Bool.not_eq_true']at hvt
  obtain⟨a,⟨b,rfl⟩,h⟩:=one _ hvt.1 hvt.2
  exact⟨b,TR.of_VR h,trivial⟩
 |int k=>
  simp only[FI,Bool.and_eq_true,Bool.not_eq_true']at hvt
  obtain⟨a,⟨b,rfl,w⟩,h⟩:=one _ hvt.1 hvt.2
  exact⟨b,TR.of_VR h,w⟩
 |str=>
  simp only[FI,Bool.and_eq_true,Bool.not_eq_true']at hvt
  obtain⟨a,⟨b,rfl,w⟩,h⟩:=one _ hvt.1 hvt.2
  exact⟨b,TR.of_VR h,w⟩
 |list tg=>
  simp only[FI,Bool.and_eq_true,Bool.not_eq_true']at hvt
  obtain⟨a,⟨b,rfl,w⟩,h⟩:=one _ hvt.1 hvt.2
  exact⟨b,TR.of_VR h,w⟩
 |arr tg n=>
  simp only[FI,Bool.and_eq_true,Bool.not_eq_true']at hvt
  obtain⟨a,⟨b,rfl,w⟩,h⟩:=one _ hvt.1 hvt.2
  exact⟨b,TR.of_VR h,w⟩
theorem vS {b:Nat}(hT:TOK P T)(hok:∀c,c<C.w.heap.size->C.ok c):∀(ts:List TypeId) (vts:List VT) (vs:List Value) (ds:List (DataW H)) (ps:List MemPlace),Ct T ts vts=true->DataW.TrodAll enc' P C.w 0 (fun _=>true) true ts vs ds ps->
  (∀(j:Nat) t v,ts[j]? =some t->vs[j]? =some v->Value.okWide P C.w .any b t v)->∃y:VTL.Ty vts,gN (TR C) (VTL.un vts y) vs/\VTL.wf vts y
 |[],[],[],_,_,_,_,_=>⟨(),trivial,trivial⟩
 |[],[],_::_,ds,_,_,h,_=>by cases ds<;>exact h.elim
 |[],_::_,_,_,_,h,_,_=>by simp[Ct]at h
 |_::_,[],_,_,_,h,_,_=>by simp[Ct]at h
 |t::ts,vt::vts,[],ds,ps,_,h,_=>by cases ds<;>exact h.elim
 |t::ts,vt::vts,v::vs,[],ps,_,h,_=>h.elim
 |t::ts,vt::vts,v::vs,d::ds,ps,hc,h,hv=>by
  simp only[Ct,Bool.and_eq_true]at hc
  obtain⟨p,q,h1,h2,_⟩:=h
  obtain⟨x,x1,x2⟩:=FJ hT hok (hv 0 t v rfl rfl) h1 vt hc.1
  obtain⟨y,y1,y2⟩:=vS hT hok ts vts vs ds q hc.2 h2 fun j t' v' a b=>hv (j+1) t' v' a b
  cases vt with
  |konst c=>cases hc.1
  |bool=>exact⟨(x,y),⟨x1,y1⟩,y2⟩
  |_=>exact⟨(x,y),⟨x1,y1⟩,x2,y2⟩
theorem vT (hl:laidOutB P=true){W W':World}(hb:Below W.heap.size W W'):∀(ts:List TypeId) (vs:List Value) (ds:List (DataW H)) (ps:List MemPlace),(ts.all fun t=>P.readableRec t&&Nat.blt t P.types.size)=true->DataW.TrodAll enc' P W 0 (fun _=>true) true ts vs ds ps->
  DataW.TrodAll enc' P W' 0 (fun b=>decide (b<W.heap.size)) true ts vs ds ps
 |[],[],[],_,_,h=>h
 |[],[],_::_,_,_,h=>h.elim
 |[],_::_,ds,_,_,h=>by cases ds<;>exact h.elim
 |t::ts,[],ds,ps,_,h=>by cases ds<;>exact h.elim
 |t::ts,v::vs,[],ps,_,h=>h.elim
 |t::ts,v::vs,d::ds,ps,hc,h=>by
  simp only[List.all_cons,Bool.and_eq_true,Nat.blt_eq]at hc
  obtain⟨p,q,h1,h2,rfl⟩:=h
  refine⟨p,q,Below.trod hl hc.1.1 hc.1.2 h1 hb ?_,vT hl hb ts vs ds q hc.2 h2,rfl⟩
  obtain⟨m,hm⟩:=h1
  exact DataW.trod_lt m _ _ _ hm
theorem qn {g:FuncId}{fn:Func}{cargs:Array Value}{w:World}{R:Value->World->Prop}(hf:P.funcs[g]? =some fn)(hname:(fn.name== "runtime.NumGoroutine")=false)(hb:fn.body.isNone=false)
  (h:xO P g cargs w R):Calls P g cargs w fun e w'=>∃x,e= .returned x/\R x w':=by
 have hr:(callFunc g cargs).run P w= .ok (.enter g cargs) w:=by
  unfold callFunc
  rw[Sem.run_bind,run_program,Result.andThen_ok,hf]
  dsimp only
  rw[hname,hb]
  rfl
 have:=h {dst:=some 0,op:= .ready 0,type:=0,pos:= "",after:= #[],guard:=none} {tmps:= #[undef],defers:=[]} (fun a w'=>R (a.tmps.getD 0 undef) w') (fun _ _ _=>False) fun x w' hx=>by simpa[Act.put]using hx
 rw[hr]at this
 refine Calls.mono (show Calls P g cargs w _ from this) fun e w' he=>?_
 cases e with
 |returned v=>exact⟨v,rfl,by simpa[Act.put]using he⟩
 |panicked c=>exact he.elim
 |outgrown=>obtain⟨_,_,he⟩:=(he:LetsOut _);exact he.elim
def cx0 (W:World):Cx:={w:=W,loc:=fun _=>none,blk:=fun _=> .gone,ok:=fun c=>c<W.heap.size,used:=fun _=>False}
theorem cx0_inv (W:World):Inv (iK (cx0 W) 0 []) (qM [] 0 []) (cx0 W) where
 eqb _:=by rw[eN];rfl
 bl _:=by rw[eN];trivial
 inj b b' c h:=by rw[eN]at h;exact absurd rfl h
 lt b c h:=by cases h
 us b _:=⟨by rw[eN];rfl,rfl⟩
 okd c hc:=⟨hc,fun b h=>by rw[eN]at h;cases h⟩
 okS c hc:= .inl hc
 own b c h:=by rw[eN]at h;exact absurd rfl h
 lt0 i c h:=absurd h (Nat.not_lt_zero _)
 inj0 i j c h:=absurd h (Nat.not_lt_zero _)
 pas b h:=absurd h (Nat.not_lt_zero _)
 pus b h:=absurd h (Nat.not_lt_zero _)
 frm:=⟨Below.refl _ _,fun _ _ _=>rfl⟩
 prt i h:=absurd h (Nat.not_lt_zero _)
 prt2 i h:=absurd h (Nat.not_lt_zero _)
 stay i h:=absurd h (Nat.not_lt_zero _)
 shp _ _ h:=h
 wid i h:=absurd h (Nat.not_lt_zero _)
 npn:=rfl
 all:=rfl
theorem DD {L:Lay}{g:FuncId}{fn:Func}{m:Sem1}(hf:P.funcs[g]? =some fn)(hname:(fn.name== "runtime.NumGoroutine")=false)(hb:fn.body.isNone=false)(hm:ov P L g m)(hw:m.wr=[])
  {W:World} (hL:L.In W (fun c=>c<W.heap.size)) {args:List AV} {cargs:Array Value} (ha:gN (TR (cx0 W)) args cargs.toList) (hr:m.run Unit args [] (fun r _=>match r with| .bool true=>some ()|_=>none)=some ()):
  Calls P g cargs W fun e w'=>e= .returned (.bool true)/\Below W.heap.size W w':=by
 have hI:Inv (iK (cx0 W) ([]:List Blk).length m.wr) (qM [] ([]:List Blk).length m.wr) (cx0 W):=by rw[hw];exact cx0_inv W
 refine(qn hf hname hb (hm (cx0 W) args [] cargs (fun i=>⟨fun h=>h.elim,fun h=>absurd h (Nat.not_lt_zero _)⟩) hL hI ha Unit _ () hr)).mono fun e w' ⟨x,he,r,hs',C',h1,h2,h3,_,_,h6⟩=>?_
 subst he
 split at h1
 ·have hx:x= .bool true:=h6
  refine⟨by rw[hx],?_⟩
  subst h2
  obtain⟨hb,hc⟩:=h3.frm
  exact⟨hb.os,hb.tape,hb.output,hb.size,fun k hk=>hc k hk fun i hi=>absurd hi (Nat.not_lt_zero _)⟩
 ·cases h1
end
end Go.Den
namespace Go.Den
open Go.RowKit (Below)
def Cx.grow (C:Cx)(w':World):Cx:={C with w:=w',ok:=fun c=>C.ok c\/(C.w.heap.size<=c/\c<w'.heap.size)}
theorem Inv.grow {B:Bs}{s:St}{C:Cx}(hI:Inv B s C){w':World}(hb:Below C.w.heap.size C.w w'):Inv B s (C.grow w')/\Ext C (C.grow w'):=by
 have hold:∀c,c<C.w.heap.size->w'.heap[c]? =C.w.heap[c]? :=hb.block
 have hE:Ext C (C.grow w'):=
  {loc:=fun _ _ h=>h,used:=fun _ h=>h,keep:=fun _ _=>BK.refl _ rfl
   cell:=fun c o v hc hv=>by rw[<-hv];exact je (hold c (hI.okd c hc).1)
   ok:=fun _ h=> .inl h
   shape:=fun c x hx=>by rw[<-hx];exact ny (hold c (vu hx))}
 refine⟨{eqb:=hI.eqb,bl:=fun i=>(hI.bl i).ext hE rfl fun c hc=>hold c (hI.lt i c hc),inj:=hI.inj,lt:=fun i c hc=>Nat.lt_of_lt_of_le (hI.lt i c hc) hb.size,us:=hI.us,okd:=?_,okS:=?_,own:=hI.own,lt0:=hI.lt0,inj0:=hI.inj0,pas:=hI.pas,pus:=hI.pus,frm:=⟨hI.frm.1.trans (hb.mono (Nat.zero_le _)),fun c hc hn=>?_⟩,prt:=fun i hi c hc o hm=>?_,prt2:=fun i hi c hc hm=>?_,stay:=hI.stay,shp:=fun c x hx=>hE.shape c x (hI.shp c x hx),wid:=hI.wid,npn:=hI.npn,all:=hI.all},hE⟩
 ·rintro c (hc|⟨h1,h2⟩)
  ·exact⟨Nat.lt_of_lt_of_le (hI.okd c hc).1 hb.size,(hI.okd c hc).2⟩
  ·exact⟨h2,fun b _ hl=>by have:=hI.lt b c hl;omega⟩
 ·rintro c (hc|⟨h1,h2⟩)
  ·exact hI.okS c hc
  ·exact .inr (.inl (Nat.le_trans hI.frm.1.size h1))
 ·exact(hold c (Nat.lt_of_lt_of_le hc hI.frm.1.size)).trans (hI.frm.2 c hc hn)
 ·exact(je (hold c (hI.lt i c ((hI.pas i hi).trans hc)))).trans (hI.prt i hi c hc o hm)
 ·exact(hold c (hI.lt i c ((hI.pas i hi).trans hc))).trans (hI.prt2 i hi c hc hm)
def pG (l:List VT)(r:RT):Sig:={D:=⟨fP 0 l,[],[]⟩,r:=r,ks:=[],wr:=[],own:=false}
def primSt (l:List VT)(r:RT)(x:(pG l r).D.Ty):St:=(pG l r).D.un {t:=[],h:=[],n:=0,np:=0,al:=[],w:=false} x
section
variable {P:Program}
theorem prim_ok {L:Lay}{g:FuncId}{fn:Func}(hf:P.funcs[g]? =some fn)(hname:(fn.name== "runtime.NumGoroutine")=false)(hb:fn.body.isNone=false)
  (l:List VT) (r:RT) (hts:Nat.ble (lenN (fP 0 l)) fn.ntmps=true) (S:(pG l r).D.Ty->Option (r.Ty×Unit))
  (hc:∀(C:Cx) (x:(pG l r).D.Ty) (z:r.Ty×Unit) (cargs:Array Value),L.In C.w C.ok->S x=some z->cargs.size=lenN (fP 0 l)->(∀i,TR C ((primSt l r x).get i) (cargs.getD i undef))->
   Calls P g cargs C.w fun e w'=>∃v,e= .returned v/\Below C.w.heap.size C.w w'/\TR (C.grow w') (r.un z.1) v):ov P L g ((pG l r).sem S):=by
 intro C args hs cargs hu hL hI hargs α k ans hr
 simp only[Sig.sem]at hr
 split at hr
 ·rename_i hl
  simp only[Bool.and_eq_true]at hl
  have hl1:=iu.1 hl.1
  have hl2:=iu.1 hl.2
  split at hr
  ·rename_i x hx
   cases hz:S x with
   |none=>rw[hz]at hr;cases hr
   |some z=>
    rw[hz]at hr
    have hr:k (r.un z.1) []=some ans:=hr
    have hal:=hargs.length
    have hcs:cargs.size=lenN (fP 0 l):=by
     have:args.length=lenN (fP 0 l):=by rw[<-lenN_eq];exact hl2
     simp at hal;omega
    have hlen:args.length<=fn.ntmps:=by rw[<-lenN_eq,hl2];exact Nat.le_of_ble_eq_true hts
    have hnil:hs=[]:=by
     have:lenN hs=0:=hl1
     rw[lenN_eq]at this
     exact List.eq_nil_of_length_eq_zero this
    subst hnil
    have hG:Good (iK C 0 []) fn.ntmps (argS [] args []) C {tmps:=cargs++Array.replicate (fn.ntmps-cargs.size) undef,defers:=[]} C.w:=
     {w:=rfl
      inv:=hI.same rfl rfl rfl
      old:={keep:=fun i _=>BK.refl _ trivial,cell:=fun _ _ _ _ h=>h,ok:=fun _ h=>h}
      fr:=fun i hi=>(hu i).1 hi
      ain:={dfr:=rfl
            siz:=by simp at hal|-;omega
            tm:=fun i=>by
             show TR C (match look (GG 0 args) i with|some v=>v|none=> .dead) _
             rw[qE,if_pos (Nat.zero_le _),Nat.sub_zero]
             cases h:args[i]? with
             |none=>trivial
             |some v=>
              obtain⟨y,h1,h2⟩:=hargs.at h
              have hi:i<cargs.size:=by have:=(List.getElem?_eq_some_iff.1 h1).1;simpa using this
              have:(cargs++Array.replicate (fn.ntmps-cargs.size) undef).getD i undef=y:=by
               have h3:cargs[i]? =some y:=by simpa using h1
               rw[Array.getD_eq_getD_getElem?,Array.getElem?_append_left hi,h3];rfl
              rw[this];exact h2}}
    obtain⟨C1,hG1⟩:=kQ hG hx {t:=[],h:=[],n:=0,np:=0,al:=[],w:=false} rfl rfl
    have hw:C1.w=C.w:=hG1.w
    have hc1:=hc C1 x z cargs (fun y hy=>⟨hG1.old.ok _ (hL y hy).1,(hL y hy).2.mono (fun _ h=>hG1.inv.shp _ _ h) fun o v hv=>hG1.old.cell _ _ _ (hL y hy).1 hv⟩) hz hcs fun i=>by
     have:=hG1.ain.tm i
     have e:(cargs++Array.replicate (fn.ntmps-cargs.size) undef).getD i undef=cargs.getD i undef:=by
      simp only[Array.getD_eq_getD_getElem?]
      by_cases hi:i<cargs.size
      ·rw[Array.getElem?_append_left hi]
      ·rw[Array.getElem?_append_right (by omega),Array.getElem?_eq_none (by omega:cargs.size<=i)]
       cases hq:(Array.replicate (fn.ntmps-cargs.size) undef)[i-cargs.size]? with
       |none=>rfl
       |some y=>
        have:=Array.getElem?_eq_some_iff.1 hq
        obtain⟨h1,h2⟩:=this
        simp at h2
        exact h2.symm
     rw[<-e];exact this
    rw[hw]at hc1
    refine iB hf hname hb (hc1.mono ?_)
    rintro e w' ⟨v,rfl,hbel,hv⟩
    obtain⟨hI',hE'⟩:=hG1.inv.grow (w':=w') (by rw[hw];exact hbel)
    exact⟨v,rfl,_,[],C1.grow w',hr,rfl,hI'.same rfl rfl rfl,hG1.old.ext hG1.inv hE',fun i hi=>hG1.fr i hi,hv⟩
  ·cases hr
 ·cases hr
theorem Lay.In.var {L:Lay}{w:World}{ok:Nat->Prop}(h:L.In w ok){name:String}{g:Nat}{p:Array Value->Prop}(hm:(g,p)∈L)(hg:P.globalNamed name=some g):∃cs,p cs/\w.var? P name=some cs:=by
 obtain⟨_,cs,hp,⟨T,hs⟩,hc⟩:=h _ hm
 refine⟨cs,hp,?_⟩
 unfold World.shape? at hs
 split at hs
 ·rename_i arr el fr he
  obtain⟨rfl,hn⟩:=Prod.mk.inj (Option.some.inj hs)
  have:arr=cs:=by
   refine Array.ext hn fun i h1 h2=>?_
   have:=hc i cs[i] (Array.getElem?_eq_getElem h2)
   unfold World.cell? at this
   rw[he]at this
   have h3:arr[i]? =some cs[i]:=by simpa[Addr.spot]using this
   rw[Array.getElem?_eq_getElem h1]at h3
   exact Option.some.inj h3
  subst this
  unfold World.var?
  rw[hg]
  show(match w.heap[g]? with|some (.cells cs _ _)=>some cs|_=>none)=_
  rw[he]
 ·cases hs
end
end Go.Den
namespace Go.Den
open Go.RowKit (Below)
open Go.Sort (grow heap_grow_old)
section
variable {P:Program}
theorem arr1 {cargs:Array Value}(h:cargs.size=1):∃a,cargs= #[a]:=by
 obtain⟨l⟩:=cargs
 match l,h with
 |[a],_=>exact⟨a,rfl⟩
theorem arr2 {cargs:Array Value}(h:cargs.size=2):∃a b,cargs= #[a,b]:=by
 obtain⟨l⟩:=cargs
 match l,h with
 |[a,b],_=>exact⟨a,b,rfl⟩
theorem asks3 {α:Type}{a b c:Bool}{x z:α}(h:br a (br b (br c (some x) none) none) none=some z):a=true/\b=true/\c=true/\z=x:=by
 cases a<;>cases b<;>cases c<;>first|(cases h;done)|exact⟨rfl,rfl,rfl,(Option.some.inj h).symm⟩
theorem xb {s:List UInt8}{n:Int}{z:List UInt8×Unit}(h:rU s n=some z):0<=n/\n<=9223372036854775807/\(s.length:Int)*n<=140737488355328/\z=(Go.Lib.repeatL s n.toNat,()):=by
 obtain⟨h0,h1,h2,h3⟩:=asks3 h
 exact⟨of_decide_eq_true h0,of_decide_eq_true h1,of_decide_eq_true h2,h3⟩
theorem En {L:Lay}{g:FuncId}{fn:Func}(hf:P.funcs[g]? =some fn)(hname:(fn.name== "runtime.NumGoroutine")=false)(hb:fn.body.isNone=false)(hts:Nat.ble 2 fn.ntmps=true)
  (hc:∀(s:ByteArray) (c:Nat) (w:World),c<=9223372036854775807->s.size*c<=140737488355328->
   Calls P g #[.string s,.int .i64 c] w fun e w'=>e= .returned (.string ⟨(Go.Lib.repeatL s.data.toList c).toArray⟩)/\Below w.heap.size w w'):
  ov P L g ((pG [.str,.int .i64] (.one .str)).sem fun x=>rU x.1.1 x.1.2.1):=by
 refine prim_ok hf hname hb [.str,.int .i64] (.one .str) hts _ fun C x z cargs hL hz hs ht=>?_
 obtain⟨a,b,rfl⟩:=arr2 hs
 obtain⟨⟨s,n,_⟩,_⟩:=x
 have ha:a= .string ⟨s.toArray⟩:=ht 0
 have hb':b= .int .i64 n:=ht 1
 subst ha hb'
 have hz:rU s n=some z:=hz
 obtain⟨h0,h1,h2,rfl⟩:=xb hz
 obtain⟨c,rfl⟩:=Int.eq_ofNat_of_zero_le h0
 refine(hc ⟨s.toArray⟩ c C.w (Int.toNat_le_toNat h1) (by rw[<-Int.natCast_mul]at h2;exact Int.toNat_le_toNat h2)).mono ?_
 rintro e w' ⟨rfl,hbel⟩
 exact⟨_,rfl,hbel,rfl⟩
end
end Go.Den
namespace Go.Den
open Go.ChangeShapes Go.WideShapes Go.RowKit
section
variable {P:Program}
theorem lay_nil {w:World}{ok:Nat->Prop}:Lay.In [] w ok:=fun _ h=>by cases h
end
end Go.Den
namespace Go.Den
open Go.RowKit (Below)
section
variable {P:Program}{T:Tr TI}{E:Tr Sem1}{A:Anns}{F:Nat}
theorem in_ok {L:Lay}(hV0:Env0 P T E L){g:FuncId}{fn:Func}(hf:P.funcs[g]? =some fn)(hname:(fn.name== "runtime.NumGoroutine")=false)(hok:(match fn.body with|some c=>mu fn.ntmps c|none=>false)=true)
  (own:Bool) (wr:List (Nat×Nat×Nat)):ov P L g (Dq E T A F fn own wr):=by
 cases hb:fn.body with
 |none=>rw[hb]at hok;cases hok
 |some c=>
 rw[hb]at hok
 intro C args hs cargs hu hL hI hargs α k ans hr
 have hV:Env P T E (iK C hs.length wr):=hV0.at hL
 simp only[Dq]at hr hI
 split at hr
 ·rename_i hts
  refine iB hf hname (by rw[hb];rfl) (calls_of_wp hf hb ?_)
  unfold denF at hr
  rw[hb]at hr
  dsimp only at hr
  have hal:=hargs.length
  have hlen:args.length<=fn.ntmps:=by rw[<-lenN_eq];exact Nat.le_of_ble_eq_true hts
  have hG:Good (iK C hs.length wr) fn.ntmps (argS wr args hs) C {tmps:=cargs++Array.replicate (fn.ntmps-cargs.size) undef,defers:=[]} C.w:=
   {w:=rfl
    inv:=hI.same rfl (lenN_eq hs) rfl
    old:={keep:=fun i _=>BK.refl _ trivial,cell:=fun _ _ _ _ h=>h,ok:=fun _ h=>h}
    fr:=fun i hi=>by show i<lenN hs;rw[lenN_eq];exact(hu i).1 hi
    ain:={dfr:=rfl
          siz:=by simp at hal|-;omega
          tm:=fun i=>by
           show TR C (match look (GG 0 args) i with|some v=>v|none=> .dead) _
           rw[qE,if_pos (Nat.zero_le _),Nat.sub_zero]
           cases h:args[i]? with
           |none=>trivial
           |some v=>
            obtain⟨y,h1,h2⟩:=hargs.at h
            have hi:i<cargs.size:=by have:=(List.getElem?_eq_some_iff.1 h1).1;simpa using this
            have:(cargs++Array.replicate (fn.ntmps-cargs.size) undef).getD i undef=y:=by
             have h3:cargs[i]? =some y:=by simpa using h1
             rw[Array.getD_eq_getD_getElem?,Array.getElem?_append_left hi,h3];rfl
            rw[this];exact h2}}
  refine vZ hV (qp hV) c 0 _ _ _ ans C _ C.w _ hok hr hG fun e s' C' a' w' g' hk=>?_
  have fin:(match Fw T s' fn.results.toList with
    |none=>none
    |some vs=>match oneV vs with
     |some v=>finK own s' v k
     |none=>none)=some ans->a'.defers=[]/\∃v,(results fn a'.tmps).run P w'= .ok v w'/\∃x,Ending.returned v= .returned x/\∃r hs' C',k r hs'=some ans/\C'.w=w'/\Inv (iK C hs.length wr) (qM hs' hs.length wr) C'/\Old (iK C hs.length wr) C'/\(∀i,C'.used i->i<hs'.length)/\TR C' r x:=by
   intro hk
   split at hk
   ·cases hk
   ·rename_i vs hvs
    split at hk
    ·rename_i v hv
     obtain⟨x,h1,h2⟩:=sh (fn:=fn) hV.tok g' hvs hv
     obtain⟨C'',e1,e2,e3,e4,e5⟩:=F4 g' own h2
     exact⟨g'.ain.dfr,x,h1,x,rfl,_,_,C'',hk,e1,e2,e3,e4,e5⟩
    ·cases hk
  cases e with
  |exit i=>cases hk
  |norm=>exact fin hk
  |ret=>exact fin hk
 ·cases hr
end
end Go.Den
namespace Go.Den
theorem iD.{u}{c:Prop}{h:Decidable c}{α:Sort u}{t e:α}(k:¬c:=by decide):(@ite α c h t e)=e:=if_neg k
theorem iN.{u}{c:Prop}{h:Decidable c}{α:Sort u}{t e:α}(k:¬c:=by omega):(@ite α c h t e)=e:=if_neg k
theorem iP.{u}{c:Prop}{h:Decidable c}{α:Sort u}{t e:α}(k:c:=by omega):(@ite α c h t e)=t:=if_pos k
theorem dT {p:Prop}[i:Decidable p](k:p:=by omega):decide p=true:=decide_eq_true k
theorem dF {p:Prop}[i:Decidable p](k:¬p:=by omega):decide p=false:=decide_eq_false k
theorem aE {α:Type}{x y:α}:br true x y=x:=rfl
theorem ak {α:Type}{x y:α}:br false x y=y:=rfl
theorem aa {α β:Type}{x:α}{f:α->Option β}:bnd (some x) f=f x:=rfl
theorem ae {α:Type}{c:Bool}{x y:α}(h:c=true):br c x y=x:=by rw[h];rfl
theorem ag {α:Type}{c:Bool}{x y:α}(h:c=false):br c x y=y:=by rw[h];rfl
theorem fv {a b:Int}(h:a<b:=by omega):ltI a b=true:=decide_eq_true h
theorem fM {a b:Int}(h:¬a<b:=by omega):ltI a b=false:=decide_eq_false h
theorem fu {a b:Int}(h:a<=b:=by omega):leI a b=true:=decide_eq_true h
theorem j9 {a b:Int}(h:¬a<=b:=by omega):leI a b=false:=decide_eq_false h
theorem be {a b:Int}(h:a=b:=by omega):eqI a b=true:=decide_eq_true h
theorem aq {a b:Int}(h:a≠b:=by omega):eqI a b=false:=decide_eq_false h
theorem cA {a b:Int}(h:0<=a:=by omega)(k:a<b:=by omega):inR a b=true:=by simp[inR,h,k]
theorem mC {a b:Int}(h:0<=a:=by omega)(k:a<=b:=by omega):inC a b=true:=by simp[inC,h,k]
theorem kD (a:Bool):aQ a= !a:=rfl
def I64 (n:Int):Prop:= -9223372036854775808<=n/\n<9223372036854775808
theorem dC {n:Int}(h:I64 n):IntKind.wrap .i64 n=n:=by
 unfold I64 at h
 simp only[IntKind.wrap,IntKind.bits,IntKind.signed,Bool.true_and,decide_eq_true_eq,ge_iff_le]
 simp only[show(2:Int)^64=18446744073709551616 from rfl,show(2:Int)^(64-1)=9223372036854775808 from rfl]
 by_cases h0:0<=n
 ·rw[Int.emod_eq_of_lt h0 (by omega),if_neg (by omega)]
 ·have:n%18446744073709551616=n+18446744073709551616:=by omega
  rw[this,if_pos (by omega)];omega
theorem au (n:Int):I64 (IntKind.wrap .i64 n):=by
 unfold I64
 simp only[IntKind.wrap,IntKind.bits,IntKind.signed,Bool.true_and,decide_eq_true_eq,ge_iff_le]
 simp only[show(2:Int)^64=18446744073709551616 from rfl,show(2:Int)^(64-1)=9223372036854775808 from rfl]
 have h1:=Int.emod_nonneg n (show(18446744073709551616:Int)≠0 by decide)
 have h2:=Int.emod_lt_of_pos n (show(0:Int)<18446744073709551616 by decide)
 split<;>omega
theorem vN {a b:Int}(h:I64 (a+b)):aB .i64 a b=a+b:=dC h
theorem EO {a b:Int}(h:I64 (a-b)):aT .i64 a b=a-b:=dC h
theorem mul_id {a b:Int}(h:I64 (a*b)):bK .i64 a b=a*b:=dC h
theorem AH {n:Int}(h:I64 n):aj .i64 n=n:=dC h
theorem wf64 {n:Int}(h:(Lit.int .i64 n).wf=true):I64 n:=by
 simp only[Lit.wf,Bool.and_eq_true,decide_eq_true_eq]at h
 simp only[IntKind.min,IntKind.max,IntKind.signed,IntKind.bits]at h
 unfold I64
 simp at h
 omega
theorem aV {α:Type}(xs:List α):bL xs=(xs.length:Int):=rfl
theorem fp {α:Type}{xs:List α}{i:Nat}{d:α}(h:i<xs.length):aR xs (i:Int) d=xs[i]:=by simp[aR,h]
theorem yy {c:Int}(h:c<=549755813888):uF c=true:=decide_eq_true h
theorem ng {σ α:Type}{f:(σ->Option α)->σ->Option α}(I:σ->Prop)(μ:σ->Nat)(R:σ->Option α->Prop)
  (h:∀x rec,I x->(∀y,I y->μ y<μ x->R y (rec y))->R x (f rec x)):∀(n:Nat) (x:σ),I x->μ x<n->R x (iter n f x)
 |0,x,_,hm=>absurd hm (Nat.not_lt_zero _)
 |n+1,x,hI,hm=>h x (iter n f) hI fun y hy hlt=>ng I μ R h n y hy (by omega)
theorem eD {σ α:Type}{f:(σ->Option α)->σ->Option α}(I:σ->Prop)(μ:σ->Nat)(g:σ->Option α)
  (h:∀x rec,I x->(∀y,I y->μ y<μ x->rec y=g y)->f rec x=g x):∀(n:Nat) (x:σ),I x->μ x<n->iter n f x=g x
 |0,x,_,hm=>absurd hm (Nat.not_lt_zero _)
 |n+1,x,hI,hm=>h x (iter n f) hI fun y hy hlt=>eD I μ g h n y hy (by omega)
end Go.Den
namespace Go.Den
def Ret {α:Type}(o:Option α)(Q:α->Prop):Prop:=∃x,o=some x/\Q x
theorem Ret.some {α:Type}{x:α}{Q:α->Prop}(h:Q x):Ret (Option.some x) Q:=⟨x,rfl,h⟩
theorem Ret.of_eq {α:Type}{o:Option α}{x:α}{Q:α->Prop}(e:o=Option.some x)(h:Q x):Ret o Q:=⟨x,e,h⟩
theorem Ret.bnd {α β:Type}{o:Option α}{f:α->Option β}{Q:α->Prop}{R:β->Prop}(h:Ret o Q)(k:∀x,Q x->Ret (f x) R):Ret (Go.Den.bnd o f) R:=by
 obtain⟨x,rfl,hx⟩:=h;exact k x hx
theorem Ret.br {α:Type}{c:Bool}{a b:Option α}{R:α->Prop}(h1:c=true->Ret a R)(h2:c=false->Ret b R):Ret (Go.Den.br c a b) R:=by
 cases c
 ·exact h2 rfl
 ·exact h1 rfl
theorem Ret.need {α:Type}{c:Bool}{a b:Option α}{R:α->Prop}(hc:c=true)(h:Ret a R):Ret (Go.Den.br c a b) R:=by rw[ae hc];exact h
theorem Ret.not {α:Type}{c:Bool}{a b:Option α}{R:α->Prop}(hc:c=false)(h:Ret b R):Ret (Go.Den.br c a b) R:=by rw[ag hc];exact h
theorem Ret.mono {α:Type}{o:Option α}{Q R:α->Prop}(h:Ret o Q)(k:∀x,Q x->R x):Ret o R:=by
 obtain⟨x,e,hx⟩:=h;exact⟨x,e,k x hx⟩
theorem Ret.iter {σ α:Type}{f:(σ->Option α)->σ->Option α}(I:σ->Prop)(μ:σ->Nat){R:α->Prop}
  (h:∀x rec,I x->(∀y,I y->μ y<μ x->Ret (rec y) R)->Ret (f rec x) R) (n:Nat) (x:σ) (hI:I x) (hm:μ x<n):Ret (Go.Den.iter n f x) R:=
 ng I μ (fun _ o=>Ret o R) h n x hI hm
theorem Ret.eq {α:Type}{o:Option α}{x:α}(h:Ret o (· =x)):o=Option.some x:=by obtain⟨y,e,rfl⟩:=h;exact e
theorem aH {a b:Int}(h: -9223372036854775808<=a+b:=by omega)(k:a+b<9223372036854775808:=by omega):aB .i64 a b=a+b:=vN ⟨h,k⟩
theorem bn {a b:Int}(h: -9223372036854775808<=a-b:=by omega)(k:a-b<9223372036854775808:=by omega):aT .i64 a b=a-b:=EO ⟨h,k⟩
theorem cX {a b:Int}(h: -9223372036854775808<=a*b:=by omega)(k:a*b<9223372036854775808:=by omega):bK .i64 a b=a*b:=mul_id ⟨h,k⟩
theorem xG {n:Int}(h: -9223372036854775808<=n:=by omega)(k:n<9223372036854775808:=by omega):aj .i64 n=n:=AH ⟨h,k⟩
theorem fh {n:Int}:IntKind.wrap .u64 n=n%18446744073709551616:=by simp[IntKind.wrap,IntKind.bits,IntKind.signed]
theorem vH {n:Int}:IntKind.wrap .u8 n=n%256:=by simp[IntKind.wrap,IntKind.bits,IntKind.signed]
theorem cJ {n:Int}(h:0<=n:=by omega)(k:n<18446744073709551616:=by omega):aj .u64 n=n:=by unfold aj;rw[fh];exact Int.emod_eq_of_lt h k
theorem Fd {n:Int}(h:0<=n:=by omega)(k:n<256:=by omega):aj .u8 n=n:=by unfold aj;rw[vH];exact Int.emod_eq_of_lt h k
theorem FH {a b:Int}(h:0<=a+b:=by omega)(k:a+b<18446744073709551616:=by omega):aB .u64 a b=a+b:=cJ h k
theorem Gz {a b:Int}(h:0<=a*b:=by omega)(k:a*b<18446744073709551616:=by omega):bK .u64 a b=a*b:=cJ h k
theorem dG {a b:Int}(h:0<=a:=by omega):fw a b=a%b:=Int.tmod_eq_emod_of_nonneg h
theorem fS {a b:Int}(h:0<=a)(k:0<b)(l:a<9223372036854775808):kE .i64 a b=a/b:=by
 unfold kE
 rw[Int.tdiv_eq_ediv_of_nonneg h]
 have h1:0<=a/b:=Int.ediv_nonneg h (Int.le_of_lt k)
 have h2:a/b<=a:=Int.ediv_le_self _ h
 exact dC ⟨by omega,by omega⟩
theorem lt_no {a b:Int}(h:b<=a:=by omega):ltI a b=false:=dF
theorem gA {α β:Type}{xs:List α}{ys:List β}(h:(xs.length:Int)+ys.length<=549755813888):fL xs ys=true:=decide_eq_true h
theorem imin_l {a b:Int}(h:a<=b):gI a b=a:=by unfold gI;split<;>omega
theorem imin_r {a b:Int}(h:b<=a):gI a b=b:=by unfold gI;split<;>omega
theorem imax_r {a b:Int}(h:a<=b):Fr a b=b:=by unfold Fr;split<;>omega
theorem bE:aQ true=false:=rfl
theorem bU:aQ false=true:=rfl
theorem DQ {a b:Int}:ltI a b=true↔a<b:=by simp[ltI]
theorem HZ {a b:Int}:leI a b=true↔a<=b:=by simp[leI]
theorem nH {a b:Int}:eqI a b=true↔a=b:=by simp[eqI]
theorem eq_nf {a b:Int}:eqI a b=false↔a≠b:=by simp[eqI]
theorem GF {a:Bool}:aQ a=true↔a=false:=by cases a<;>simp[aQ]
theorem notB_nf {a:Bool}:aQ a=false↔a=true:=by cases a<;>simp[aQ]
theorem AR {a b:Bool}:br a (some true) (some b)=some (a||b):=by cases a<;>rfl
theorem qS {a b:Bool}:br a (some b) (some false)=some (a&&b):=by cases a<;>rfl
theorem ah {α β γ:Type}{x:α}{f:α->γ}{g:β->γ}:aU (Sum.inl x) f g=f x:=rfl
theorem qg {α β γ:Type}{x:β}{f:α->γ}{g:β->γ}:aU (Sum.inr x) f g=g x:=rfl
end Go.Den
namespace Go.Den
open Go.ChangeShapes Go.WideShapes Go.RowKit
section
variable {P:Program}
end
end Go.Den
namespace Go.Den
open Go.RowKit (Below)
section
variable {P:Program}
end
end Go.Den
namespace Go.Den
open Go.RowKit (Below)
section
variable {P:Program}
end
end Go.Den
namespace Go.Den
open Go.RowKit (Below)
section
variable {P:Program}
def EM:Array Value->Sem Value:=fun args=>do
 let (x,y,b) <-Extern.MathBitsCarry.three "Sub64" args
 pure (Extern.MathBitsCarry.pair ((x+Extern.MathBitsCarry.m64-y-b)%Extern.MathBitsCarry.m64) (if x<y+b then 1 else 0))
theorem BF (x y b:Nat)(hy:y<18446744073709551616)(hb:b<=1)(w:World):
  (EM #[.int .u64 x,.int .u64 y,.int .u64 b]).run P w= .ok (.tuple #[.int .u64 (nR x y b),.int .u64 (mp x y b)]) w:=by
 have e:(EM #[.int .u64 x,.int .u64 y,.int .u64 b]).run P w=
   .ok (.tuple #[.int .u64 (((x+18446744073709551616-y-b)%18446744073709551616:Nat):Int),.int .u64 ((if x<y+b then 1 else 0:Nat):Int)]) w:=by
  have:b=0\/b=1:=by omega
  rcases this with rfl|rfl<;>rfl
 rw[e]
 unfold nR mp
 congr 4
 ·congr 1;omega
 ·congr 2
  by_cases h:x<y+b
  ·rw[if_pos h,if_pos (by omega)];rfl
  ·rw[if_neg h,if_neg (by omega)];rfl
theorem H2 {L:Lay}{g:FuncId}(m:Sem1)(hw:m.wr=[])
  (hc:∀(C:Cx) (args:List AV) (hs:List Blk) (cargs:Array Value) (α:Type) (k:AV->List Blk->Option α) (ans:α),gN (TR C) args cargs.toList->m.run α args hs k=some ans->
   hs=[]/\∃v r,(callFunc g cargs).run P C.w= .ok (.value v) C.w/\k r []=some ans/\TR C r v):ov P L g m:=by
 intro C args hs cargs hu hL hI hargs α k ans hr
 obtain⟨rfl,v,r,hrun,hk,hv⟩:=hc C args hs cargs α k ans hargs hr
 rw[hw]at hI|-
 intro o a next Q hn
 rw[hrun]
 have hO:Old (iK C 0 []) C:={keep:=fun i _=>BK.refl _ trivial,cell:=fun _ _ _ _ h=>h,ok:=fun _ h=>h}
 exact hn v C.w ⟨r,[],C,hk,rfl,hI.same rfl rfl rfl,hO,fun i hi=>(hu i).1 hi,hv⟩
theorem tY {C:Cx}{a b c:AV}{cargs:Array Value}(h:gN (TR C) [a,b,c] cargs.toList):∃x y z,cargs= #[x,y,z]/\TR C a x/\TR C b y/\TR C c z:=by
 obtain⟨l⟩:=cargs
 match l,h with
 |[x,y,z],h=>exact⟨x,y,z,rfl,h.1,h.2.1,h.2.2.1⟩
 |[],h=>exact h.elim
 |[_],h=>exact h.2.elim
 |[_,_],h=>exact h.2.2.elim
 |_::_::_::_::_,h=>exact h.2.2.2.elim
theorem FG {L:Lay}{g:FuncId}{fn:Func}(hf:P.funcs[g]? =some fn)(hname:(fn.name== "runtime.NumGoroutine")=false)(hb:fn.body.isNone=true)(hn:Extern.findNext fn=none)(he:Extern.find fn=some add64Entry):ov P L g zw:=by
 refine H2 _ rfl fun C args hs cargs α k ans hargs hr=>?_
 unfold zw at hr
 dsimp only at hr
 split at hr
 ·rename_i a b c
  refine⟨rfl,?_⟩
  obtain⟨x,y,z,rfl,hx,hy,hz⟩:=tY hargs
  obtain rfl:x= .int .u64 a:=hx
  obtain rfl:y= .int .u64 b:=hy
  obtain rfl:z= .int .u64 c:=hz
  cases h1:vC a with
  |false=>rw[h1]at hr;cases hr
  |true=>
   cases h2:vC b with
   |false=>rw[h1,h2]at hr;cases hr
   |true=>
    cases h3:Ce c with
    |false=>rw[h1,h2,h3]at hr;cases hr
    |true=>
     rw[h1,h2,h3,ae rfl,ae rfl,ae rfl]at hr
     have g1:=of_decide_eq_true h1
     have g2:=of_decide_eq_true h2
     have g3:=of_decide_eq_true h3
     refine⟨_,_,?_,hr,⟨#[.int .u64 (qQ a b c),.int .u64 (vM a b c)],rfl,⟨rfl,rfl,trivial⟩⟩⟩
     rw[run_callFunc_extern hf hname hb hn he,run_add64 a b c g1.1 g2.1 g3.1 g3.2];rfl
 ·cases hr
theorem Hs {L:Lay}{g:FuncId}{fn:Func}(hf:P.funcs[g]? =some fn)(hname:(fn.name== "runtime.NumGoroutine")=false)(hb:fn.body.isNone=true)(hn:Extern.findNext fn=none)(he:Extern.find fn=some EM):ov P L g xz:=by
 refine H2 _ rfl fun C args hs cargs α k ans hargs hr=>?_
 unfold xz at hr
 dsimp only at hr
 split at hr
 ·rename_i a b c
  refine⟨rfl,?_⟩
  obtain⟨x,y,z,rfl,hx,hy,hz⟩:=tY hargs
  obtain rfl:x= .int .u64 a:=hx
  obtain rfl:y= .int .u64 b:=hy
  obtain rfl:z= .int .u64 c:=hz
  cases h1:vC a with
  |false=>rw[h1]at hr;cases hr
  |true=>
   cases h2:vC b with
   |false=>rw[h1,h2]at hr;cases hr
   |true=>
    cases h3:Ce c with
    |false=>rw[h1,h2,h3]at hr;cases hr
    |true=>
     rw[h1,h2,h3,ae rfl,ae rfl,ae rfl]at hr
     have g1:=of_decide_eq_true h1
     have g2:=of_decide_eq_true h2
     have g3:=of_decide_eq_true h3
     obtain⟨A,rfl⟩:=Int.eq_ofNat_of_zero_le g1.1
     obtain⟨B',rfl⟩:=Int.eq_ofNat_of_zero_le g2.1
     obtain⟨K,rfl⟩:=Int.eq_ofNat_of_zero_le g3.1
     refine⟨_,_,?_,hr,⟨#[.int .u64 (nR A B' K),.int .u64 (mp A B' K)],rfl,⟨rfl,rfl,trivial⟩⟩⟩
     rw[run_callFunc_extern hf hname hb hn he,BF A B' K (by omega) (by omega)];rfl
 ·cases hr
end
end Go.Den
