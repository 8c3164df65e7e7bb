/- Theory for the proofs of this claim: see its last text. -/
import Derived.Test.YtgpplhdmdndffaaGreatDenC
import Derived.Deep.LoopGhost
import Derived.LoopN
set_option linter.unusedSimpArgs false
namespace Go.Den
open Go.RowKit (Below)
theorem me:∀(u v:List (Nat×WU)) (h:List (Nat×Blk)),cF (u++v) h=cF v (cF u h)
 |[],v,h=>rfl
 |(b,x)::u,v,h=>by simp only[ol,cF,me u v]
theorem gh:∀(u:List (Nat×WU)) (h:List (Nat×Blk)) (b:Nat),(∀x∈u,x.1≠b)->look (cF u h) b=look h b
 |[],_,_,_=>rfl
 |(c,x)::u,h,b,hn=>by
  rw[cF,gh u _ b fun y hy=>hn y (bt _ hy),look_cons,ae (hn (c,x) (bq ..))]
theorem pj (b i:Nat)(wr:List (Nat×Nat×Nat)):∀(k:Nat) (ds:List AV),∀x∈ni b i wr k ds,x.1=b
 |_,[],x,h=>by simp[ni]at h
 |k,a::r,x,h=>by
  simp only[ni]at h
  split at h
  ·rcases aN.1 h with rfl|h
   ·rfl
   ·exact pj b i wr (k+1) r x h
  ·exact pj b i wr (k+1) r x h
theorem we (b i:Nat)(wr:List (Nat×Nat×Nat)):∀(k:Nat) (ds:List AV) (q:Nat),q<ds.length->rk i (k+q) wr=true->∃v,(b,WU.set (k+q) v)∈ni b i wr k ds
 |_,[],q,h,_=>ah h (cN _)
 |k,a::r,0,_,hc=>by
  simp only[ni]
  rw[iA]at hc|-
  rw[hc]
  exact⟨a,bq ..⟩
 |k,a::r,q+1,h,hc=>by
  obtain⟨v,hv⟩:=we b i wr (k+1) r q (by simpa using h) (by rw[<-hc];congr 1;omega)
  refine⟨v,?_⟩
  rw[show k+(q+1)=k+1+q by omega]
  simp only[ni]
  split
  ·exact bt _ hv
  ·exact hv
theorem tc (b i:Nat)(wr:List (Nat×Nat×Nat)):∀(ds:List AV) (k:Nat) (h:List (Nat×Blk)) (cs:List AV),look h b=some (.var cs)->k+ds.length=cs.length->
  ∃es,look (cF (ni b i wr k ds) h) b=some (.var es)/\es.length=cs.length/\(∀q,q<k->es[q]? =cs[q]?)/\∀q,q<ds.length->es[k+q]? =if rk i (k+q) wr=true then ds[q]? else cs[k+q]?
 |[],k,h,cs,hl,_=>⟨cs,hl,rfl,fun _ _=>rfl,fun q hq=>ah hq (cN _)⟩
 |a::r,k,h,cs,hl,hk=>by
  simp only[fa]at hk
  simp only[ni]
  split
  ·rename_i hc
   simp only[cF,hl,WU.app]
   obtain⟨es,h1,h2,h3,h4⟩:=tc b i wr r (k+1) ((b,.var (setN cs k a))::h) (setN cs k a) (by rw[look_cons,aa rfl]) (by rw[setN_eq];simp;omega)
   rw[setN_eq]at h2 h3 h4
   refine⟨es,h1,by simpa using h2,fun q hq=>?_,fun q hq=>?_⟩
   ·rw[h3 q (by omega),mV (by omega)]
   ·cases q with
    |zero=>
     rw[iA,h3 k (by omega),hc,aa rfl,sT (by omega)]
     rfl
    |succ q=>
     rw[show k+(q+1)=k+1+q by omega,h4 q (by simpa using hq)]
     simp only[qp]
     rw[mV (by omega)]
  ·rename_i hc
   obtain⟨es,h1,h2,h3,h4⟩:=tc b i wr r (k+1) h cs hl (by omega)
   refine⟨es,h1,h2,fun q hq=>h3 q (by omega),fun q hq=>?_⟩
   cases q with
   |zero=>rw[iA,h3 k (by omega),hc];simp
   |succ q=>
    rw[show k+(q+1)=k+1+q by omega,h4 q (by simpa using hq)]
    simp only[qp]
def tP (wr:List (Nat×Nat×Nat))(blk:Nat->Blk)(k j:Nat)(b:Blk)(x:Option Blk)(u:List (Nat×WU)):Prop:=
 (x=some b/\(j,WU.blk b)∈u)\/(lY k wr=false/\rV k wr=false/\x=some (blk j))\/
 (lY k wr=false/\∃cs ds es,blk j= .var cs/\b= .var ds/\yV cs ds=true/\x=some (.var es)/\es.length=cs.length/\(∀q,q<cs.length->es[q]? =if rk k q wr=true then ds[q]? else cs[q]?)/\
  ∀q,q<cs.length->rk k q wr=true->∃v,(j,WU.set q v)∈u)
theorem tP.mono {wr:List (Nat×Nat×Nat)}{blk:Nat->Blk}{k j:Nat}{b:Blk}{x:Option Blk}{u v:List (Nat×WU)}(h:tP wr blk k j b x u)(hs:∀y∈u,y∈v):tP wr blk k j b x v:=by
 rcases h with ⟨h1,h2⟩|h|⟨h1,cs,ds,es,h2,h3,h4,h5,h6,h7,h8⟩
 ·exact .inl ⟨h1,hs _ h2⟩
 ·exact .inr (.inl h)
 ·exact .inr (.inr ⟨h1,cs,ds,es,h2,h3,h4,h5,h6,h7,fun q hq hc=>let ⟨v,hv⟩:=h8 q hq hc;⟨v,hs _ hv⟩⟩)
theorem sc {wr:List (Nat×Nat×Nat)}{blk:Nat->Blk}:∀(js:List Nat) (k:Nat) (bs:List Blk) (u:List (Nat×WU)),tj wr blk k js bs=some u->∀x∈u,x.1∈js
 |[],k,[],u,h,x,hx=>by simp[tj]at h;subst h;simp at hx
 |[],k,_::_,u,h,_,_=>by simp[tj]at h
 |_::_,k,[],u,h,_,_=>by simp[tj]at h
 |j::js,k,b::bs,u,h,x,hx=>by
  simp only[tj]at h
  split at h
  ·cases h
  ·rename_i r hr
   have ih:=sc js (k+1) bs r hr
   split at h
   ·obtain rfl:=aw h
    rcases aN.1 hx with rfl|hx
    ·exact bq ..
    ·exact bt _ (ih x hx)
   ·split at h
    ·obtain rfl:=aw h
     exact bt _ (ih x hx)
    ·split at h
     ·split at h
      ·obtain rfl:=aw h
       rcases jc.1 hx with hx|hx
       ·rw[pj _ _ _ _ _ x hx];exact bq ..
       ·exact bt _ (ih x hx)
      ·cases h
     ·cases h
theorem wG {wr:List (Nat×Nat×Nat)}{blk:Nat->Blk}:∀(js:List Nat) (k:Nat) (bs:List Blk) (u:List (Nat×WU)) (h0:List (Nat×Blk)),tj wr blk k js bs=some u->js.Nodup->(∀j∈js,look h0 j=some (blk j))->
  ∀i j,js[i]? =some j->∃b,bs[i]? =some b/\tP wr blk (k+i) j b (look (cF u h0) j) u
 |[],_,_,_,_,_,_,_,i,j,hj=>by simp at hj
 |_::_,k,[],u,_,h,_,_,_,_,_=>by simp[tj]at h
 |j0::js,k,b0::bs,u,h0,h,hn,hl,i,j,hj=>by
  obtain⟨hn1,hn2⟩:=mA.1 hn
  have hl0:=hl j0 (bq ..)
  simp only[tj]at h
  split at h
  ·cases h
  ·rename_i r hr
   have hfst:=sc js (k+1) bs r hr
   have rest:∀(u0:List (Nat×WU)),(∀x∈u0,x.1=j0)->u=u0++r->∀i j,js[i]? =some j->∃b,bs[i]? =some b/\tP wr blk (k+1+i) j b (look (cF u h0) j) u:=by
    intro u0 hu0 hu i j hj
    subst hu
    rw[me]
    obtain⟨b,h1,h2⟩:=wG js (k+1) bs r (cF u0 h0) hr hn2 (fun j' hj'=>by
     rw[gh u0 h0 j' fun x hx e=>hn1 (by rw[<-hu0 x hx,e];exact hj')]
     exact hl j' (bt _ hj')) i j hj
    exact⟨b,h1,h2.mono fun y hy=>gb _ hy⟩
   have here:∀(u0:List (Nat×WU)),u=u0++r->look (cF u h0) j0=look (cF u0 h0) j0:=by
    intro u0 hu
    rw[hu,me]
    exact gh r _ j0 fun x hx e=>hn1 (by rw[<-e];exact hfst x hx)
   have split2:∀(u0:List (Nat×WU)),(∀x∈u0,x.1=j0)->u=u0++r->tP wr blk k j0 b0 (look (cF u0 h0) j0) u->∃b,(b0::bs)[i]? =some b/\tP wr blk (k+i) j b (look (cF u h0) j) u:=by
    intro u0 hu0 hu hat
    cases i with
    |zero=>
     simp only[oB,Option.some.injEq]at hj
     subst hj
     exact⟨b0,rfl,by rw[iA,here u0 hu];exact hat⟩
    |succ i=>
     obtain⟨b,h1,h2⟩:=rest u0 hu0 hu i j (by simpa using hj)
     exact⟨b,by simpa using h1,by rw[show k+(i+1)=k+1+i by omega];exact h2⟩
   split at h
   ·obtain rfl:=aw h
    refine split2 [(j0,.blk b0)] (by simp) rfl (.inl ⟨?_,bq ..⟩)
    simp[cF,look_cons,WU.app]
   ·rename_i hwh
    split at h
    ·rename_i hto
     obtain rfl:=aw h
     exact split2 [] (by simp) rfl (.inr (.inl ⟨hwh,hto,hl0⟩))
    ·split at h
     ·rename_i cs ds hbj
      split at h
      ·rename_i hsw
       obtain rfl:=aw h
       have hlen:ds.length=cs.length:=by have:=congrArg List.length (qa hsw);simpa using this.symm
       obtain⟨es,e1,e2,_,e4⟩:=tc j0 k wr ds 0 h0 cs (by rw[hl0,hbj]) (by omega)
       refine split2 _ (pj j0 k wr 0 ds) rfl (.inr (.inr ⟨hwh,cs,ds,es,hbj,rfl,hsw,e1,e2,fun q hq=>?_,fun q hq hc=>?_⟩))
       ·have:=e4 q (by omega)
        simpa using this
       ·obtain⟨v,hv⟩:=we j0 k wr 0 ds q (by omega) (by simpa using hc)
        exact⟨v,iw _ (by simpa using hv)⟩
      ·cases h
     ·cases h
theorem qg {s:St}:∀ {u:List (Nat×WU)},qf s u=true->∀b x,(b,x)∈u->match x with| .blk _=>allowed s b 0 big=true| .set k _=>okW s b k 1=true
 |[],_,_,_,h=>by simp at h
 |(c,.blk y)::r,hu,b,x,h=>by
  simp only[qf,ar]at hu
  rcases aN.1 h with h|h
  ·cases h;exact hu.1
  ·exact qg hu.2 b x h
 |(c,.set k y)::r,hu,b,x,h=>by
  simp only[qf,ar]at hu
  rcases aN.1 h with h|h
  ·cases h;exact hu.1
  ·exact qg hu.2 b x h
theorem vv {k:Nat}:∀ {wr:List (Nat×Nat×Nat)} {hi:Nat},(k,0,hi)∈wr->big<=hi->lY k wr=true
 |[],_,h,_=>by simp at h
 |(j,l,g)::r,hi,h,hb=>by
  simp only[lY,cO,ar]
  rcases aN.1 h with h|h
  ·obtain⟨rfl,rfl,rfl⟩:k=j/\0=l/\hi=g:=by simpa using h
   exact .inl ⟨j4.2 rfl,j4.2 rfl,Nat.ble_eq_true_of_le hb⟩
  ·exact .inr (vv h hb)
theorem wL {i k:Nat}:∀ {wr:List (Nat×Nat×Nat)} {lo hi:Nat},(i,lo,hi)∈wr->lo<=k->k<hi->rk i k wr=true
 |[],_,_,h,_,_=>by simp at h
 |(j,l,g)::r,lo,hi,h,h1,h2=>by
  simp only[rk,cO,ar]
  rcases aN.1 h with h|h
  ·obtain⟨rfl,rfl,rfl⟩:i=j/\lo=l/\hi=g:=by simpa using h
   exact .inl ⟨j4.2 rfl,Nat.ble_eq_true_of_le h1,by rw[gO];exact h2⟩
  ·exact .inr (wL h h1 h2)
theorem rW {i:Nat}:∀ {wr:List (Nat×Nat×Nat)} {lo hi:Nat},(i,lo,hi)∈wr->rV i wr=true
 |[],_,_,h=>by simp at h
 |(j,l,g)::r,lo,hi,h=>by
  simp only[rV,cO]
  rcases aN.1 h with h|h
  ·obtain⟨rfl,rfl,rfl⟩:i=j/\lo=l/\hi=g:=by simpa using h
   exact .inl (j4.2 rfl)
  ·exact .inr (rW h)
end Go.Den
namespace Go.Den
open Go.RowKit (Below)
section
variable {P:Program}{T:Tr TI}{B:Bs}{s:St}{C C':Cx}{keep S:List Nat}{m:Sem1}{s':St}
theorem tq {blk:Nat->Blk}:∀(S:List Nat) (h:List (Nat×Blk)),S.Nodup->(∀b∈S,(∃t xs f,blk b= .row t xs f/\look (cF (pF blk S) h) b=some (.row t xs true)/\(b,WU.blk (.row t xs true))∈pF blk S)\/((∀t xs f,blk b≠ .row t xs f)/\look (cF (pF blk S) h) b=look h b))/\
  ∀x∈pF blk S,x.1∈S
 |[],h,_=>by simp[pF]
 |b::r,h,hn=>by
  obtain⟨hn1,hn2⟩:=mA.1 hn
  simp only[pF]
  split
  ·rename_i t xs f hb
   obtain⟨i1,i2⟩:=tq r ((b,.row t xs true)::h) hn2
   refine⟨fun c hc=>?_,fun x hx=>?_⟩
   ·simp only[cF,WU.app]
    by_cases e:c=b
    ·subst e
     refine .inl ⟨t,xs,f,hb,?_,bq ..⟩
     rw[gh _ _ c fun x hx g=>hn1 (g▸i2 x hx),look_cons,aa rfl]
    ·have hc:c∈r:=(aN.1 hc).resolve_left e
     rcases i1 c hc with ⟨t',xs',f',e1,e2,e3⟩|⟨e1,e2⟩
     ·exact .inl ⟨t',xs',f',e1,e2,bt _ e3⟩
     ·exact .inr ⟨e1,by rw[e2,look_cons,ae (fun g=>e g.symm)]⟩
   ·rcases aN.1 hx with rfl|hx
    ·exact bq ..
    ·exact bt _ (i2 x hx)
  ·rename_i hb
   obtain⟨i1,i2⟩:=tq r h hn2
   refine⟨fun c hc=>?_,fun x hx=>bt _ (i2 x hx)⟩
   by_cases e:c=b
   ·subst e
    exact .inr ⟨fun t xs f g=>hb t xs f g,gh _ _ c fun x hx g=>hn1 (g▸i2 x hx)⟩
   ·exact i1 c ((aN.1 hc).resolve_left e)
theorem yP {σ:Nat->Option Nat}{blk:Nat->Blk}:∀(l:List Blk) (i:Nat),(uk σ blk l)[i]? =(l[i]?).map (nV σ blk)
 |[],i=>by simp[uk]
 |b::r,0=>by simp[uk]
 |b::r,i+1=>by simp[uk,yP r i]
theorem Av {σ:Nat->Option Nat}{blk:Nat->Blk}(l:List Blk):(uk σ blk l).length=l.length:=by
 induction l with
 |nil=>rfl
 |cons b r ih=>simp[uk,ih]
theorem upIx_eq {keep:List Nat}{n k:Nat}:y6 keep n k=some (upN keep n k):=by
 unfold y6 upN
 rw[nth_eq]
 cases keep[k]? <;>simp[lenN_eq]
theorem vP:∀ {cs:List AV} {k o:Nat},lL cs k<=o->o<lL cs (k+1)->k<cs.length
 |[],0,o,_,h=>by simp[lL]at h
 |[],k+1,o,_,h=>by simp[lL]at h
 |a::r,0,o,_,_=>by simp
 |a::r,k+1,o,h1,h2=>by
  simp only[lL]at h1 h2
  have:=vP (cs:=r) (k:=k) (o:=o-a.width) (by omega) (by omega)
  simp only[fa];omega
theorem GK {cs:List AV}{j k o:Nat}(h1:lL cs j<=o)(h2:o<lL cs (j+1))(h3:lL cs k<=o)(h4:o<lL cs (k+1)):j=k:=by
 have hj:=vP h1 h2
 have hk:=vP h3 h4
 refine Classical.byContradiction fun hn=>?_
 rcases Nat.lt_or_gt_of_ne hn with g|g
 ·have:=pQ (cs:=cs) (i:=j+1) (j:=k) g (by omega);omega
 ·have:=pQ (cs:=cs) (i:=k+1) (j:=j) g (by omega);omega
theorem Io (hI:Inv B s C)(hfr:∀i,C.used i->i<s.n)(hk:∀b∈keep,s.blk b≠ .gone)(hn:keep.Nodup)(hSk:∀b∈S,b∉keep)(hSn:S.Nodup)(hSg:∀b∈S,b<s.n)
  {hs:List Blk} (hC':∀i,C'.blk i=(hs[i]?).getD .gone) {r:AV} {e:Eff} (h:finC m s keep S r hs=some e):
  ∃fz,Back B (lT (cD C keep S) keep.length m.wr) s C C' keep S (y6 keep s.n) (fun i=>(s.apply none e).blk i) hs.length fz/\(fz=false->nI r=true/\qT hs=true)/\
   e.v=ren (y6 keep s.n) mq r/\lenN e.new=hs.length-keep.length/\(e.upd=[]->∀k,k<keep.length->∀o,¬j7 (lT (cD C keep S) keep.length m.wr) k o):=by
 unfold finC at h
 split at h
 ·rename_i u hbk hlen
  have hlen:keep.length<=hs.length:=by
   have:=i9 hlen
   rwa [lenN_eq,lenN_eq]at this
  have hbfst:=sc _ _ _ _ hbk
  have hkn:∀b∈keep,b<s.n:=fun b hb=>hfr b (oQ hI (hk b hb))
  have main:∀(u0:List (Nat×WU)) (fz:Bool),(∀x∈u0,x.1∈S)->qf s (u0++u)=true->e=⟨ren (y6 keep s.n) mq r,u0++u,uk (y6 keep s.n) mq (dropN (lenN keep) hs)⟩->
    (∀b∈S,(∃t xs f,fz=true/\s.blk b= .row t xs f/\look (cF u0 s.h) b=some (.row t xs true)/\(b,WU.blk (.row t xs true))∈u0)\/((fz=true->∀t xs f,s.blk b≠ .row t xs f)/\look (cF u0 s.h) b=look s.h b))->
    Back B (lT (cD C keep S) keep.length m.wr) s C C' keep S (y6 keep s.n) (fun i=>(s.apply none e).blk i) hs.length fz/\e.v=ren (y6 keep s.n) mq r/\lenN e.new=hs.length-keep.length/\(e.upd=[]->∀k,k<keep.length->∀o,¬j7 (lT (cD C keep S) keep.length m.wr) k o):=by
   intro u0 fz hu0 hok he hsn
   have hnlen:lenN e.new=hs.length-keep.length:=by rw[he];simp[lenN_eq,Av,dropN_eq]
   have hats:∀k b,keep[k]? =some b->∃x,hs[k]? =some x/\tP m.wr s.blk k b (nV (y6 keep s.n) mq x) (look (cF u (cF u0 s.h)) b) u:=fun k b hkb=>by
    have hkl:k<keep.length:=(bj.1 hkb).1
    obtain⟨b',hb',hat⟩:=wG keep 0 _ u (cF u0 s.h) hbk hn (fun j hj=>by
     rw[gh u0 s.h j fun x hx e=>hSk j (e▸hu0 x hx) hj]
     exact rN (hk j hj)) k b hkb
    rw[yP,takeN_eq,lenN_eq,qo hkl]at hb'
    obtain⟨x,hx1,rfl⟩:∃x,hs[k]? =some x/\nV (y6 keep s.n) mq x=b':=by simpa using hb'
    rw[eP]at hat
    exact⟨x,hx1,hat⟩
   have hmws:∀k b cs,keep[k]? =some b->s.blk b= .var cs->lY k m.wr=false->∀o,j7 (lT (cD C keep S) keep.length m.wr) k o->∃q,lL cs q<=o/\o<lL cs (q+1)/\rk k q m.wr=true:=by
    intro k b cs hkb h2 hnw
    have hb0:(lT (cD C keep S) keep.length m.wr).hs0 k= .var (wq (oS keep · 0) (kP S C.blk) cs):=by simp[lT,cD,hkb,hI.eqb,h2,nV]
    rintro o ⟨lo,hi,hm,⟨rfl,hw⟩|⟨cs0,e1,q,q1,q2,q3,q4⟩⟩
    ·have h9:lY k m.wr=true:=vv hm hw
     rw[h9]at hnw;cases hnw
    ·rw[hb0]at e1
     obtain rfl:=Blk.var.inj e1
     rw[kK (gu cs)]at q3 q4
     exact⟨q,q3,q4,wL hm q1 q2⟩
   refine⟨?_,by rw[he],hnlen,fun hq k hkl o ho=>?_⟩
   case refine_2=>
    have hunil:u=[]:=by rw[he]at hq;exact(List.append_eq_nil_iff.1 hq).2
    obtain⟨x,_,hat⟩:=hats k keep[k] (co hkl)
    rcases hat with ⟨_,h2⟩|⟨_,h2,_⟩|⟨hnw,cs,_,_,h2,_,_,_,_,_,h8⟩
    ·rw[hunil]at h2;simp at h2
    ·obtain⟨lo,hi,hm,_⟩:=ho
     have h9:rV k m.wr=true:=rW hm
     rw[h9]at h2;cases h2
    ·obtain⟨q,q1,q2,q3⟩:=hmws k _ cs (co hkl) h2 hnw o ho
     obtain⟨v,hv⟩:=h8 q (vP q1 q2) q3
     rw[hunil]at hv;simp at hv
   have hbb:∀i,(s.apply none e).blk i=match(if s.n<=i/\i<s.n+(hs.length-keep.length)then(hs[keep.length+(i-s.n)]?).map (nV (y6 keep s.n) mq)else look (cF u (cF u0 s.h)) i)with|some v=>v|none=> .gone:=fun i=>by
    have e1:look (s.apply none e).h i=if s.n<=i/\i<s.n+(hs.length-keep.length)then(hs[keep.length+(i-s.n)]?).map (nV (y6 keep s.n) mq)else look (cF u (cF u0 s.h)) i:=by
     rw[he]
     show look (iM s.n (uk (y6 keep s.n) mq (dropN (lenN keep) hs)) (cF (u0++u) s.h)) i=_
     rw[jr,Av,yP,dropN_eq,lenN_eq,fH,mW,me]
    show(match look (s.apply none e).h i with|some v=>v|none=> .gone)=_
    rw[e1]
   have hold:∀i,i<s.n->(s.apply none e).blk i=match look (cF u (cF u0 s.h)) i with|some v=>v|none=> .gone:=fun i hi=>by
    rw[hbb,ae (by omega)]
   have huo:∀h i,i∉keep->look (cF u h) i=look h i:=fun h i hi=>gh u h i fun x hx e=>hi (e▸hbfst x hx)
   have hu0o:∀h i,i∉S->look (cF u0 h) i=look h i:=fun h i hi=>gh u0 h i fun x hx e=>hi (e▸hu0 x hx)
   refine {ups:=fun k=>upIx_eq,new:=fun i hi=>?_,kept:=fun k b hkb=>?_,snap:=fun b hb=>?_,rest:=fun b hb hbk hbS=>?_,len:=hlen}
   ·show(s.apply none e).blk i=_
    rw[hbb,hC']
    by_cases g:i<s.n+(hs.length-keep.length)
    ·rw[aa ⟨hi,g⟩]
     have:keep.length+(i-s.n)<hs.length:=by omega
     simp[this]
    ·rw[ae (by omega),fF (by omega:hs.length<=keep.length+(i-s.n))]
     have hi1:i∉keep:=fun h=>by have:=hkn i h;omega
     have hi2:i∉S:=fun h=>by have:=hSg i h;omega
     rw[huo _ i hi1,hu0o _ i hi2]
     exact(hI.us i fun h=>by have:=hfr i h;omega).1
   ·have hbm:=cw hkb
    have hbS:b∉S:=fun h=>hSk b h hbm
    have hkl:k<keep.length:=(bj.1 hkb).1
    have hx:=hold b (hkn b hbm)
    obtain⟨x,hx1,hat⟩:=hats k b hkb
    have hCk:C'.blk k=x:=by rw[hC',hx1];rfl
    show KB B _ s C' _ (fun i=>(s.apply none e).blk i) k b
    rcases hat with ⟨h1,h2⟩|⟨_,h2,h3⟩|⟨hnw,cs,ds,es,h2,h3,h4,h5,h6,h7,h8⟩
    ·refine .inl ⟨by show(s.apply none e).blk b=_;rw[hx,h1,hCk],fun hb=>?_⟩
     exact dH hI (qg hok b _ (gb _ h2)) hb
    ·refine .inr (.inl ⟨by show(s.apply none e).blk b=_;rw[hx,h3],fun o ho=>?_⟩)
     obtain⟨lo,hi,hm,_⟩:=ho
     have h9:rV k m.wr=true:=rW hm
     rw[h9]at h2;cases h2
    ·obtain⟨ds0,d1,d2⟩:=mK h3
     have hds:ds=wq (y6 keep s.n) mq ds0:=by rw[d1]at h3;simpa[nV]using h3.symm
     have hmw:=hmws k b cs hkb h2 hnw
     have hwid:ds0.map AV.width=cs.map AV.width:=by rw[d2,qa h4]
     refine .inr (.inr ⟨cs,ds0,es,h2,hCk.trans d1,by show(s.apply none e).blk b=_;rw[hx,h5],hwid,h6,fun q hq=>?_,fun hb o ho=>?_⟩)
     ·rw[h7 q hq]
      by_cases g:rk k q m.wr=true
      ·left
       rw[aa g,hds,nT,lD]
      ·right
       rw[ae g]
       refine⟨rfl,fun o o1 o2 ho=>?_⟩
       obtain⟨q',q1,q2,q3⟩:=hmw o ho
       rw[GK o1 o2 q1 q2]at g
       exact g q3
     ·obtain⟨q,q1,q2,q3⟩:=hmw o ho
      have hq:=vP q1 q2
      obtain⟨v,hv⟩:=h8 q hq q3
      have:=qg hok b _ (gb _ hv)
      simp only[okW,h2]at this
      obtain⟨l,h',a1,a2,a3⟩:=tb hI this hb
      obtain⟨cs0,c0⟩:=(hI.wid b hb).2 cs h2
      obtain⟨ds',c1,c2⟩:=(hI.wid b hb).1 cs0 c0
      rw[h2]at c1
      obtain rfl:=Blk.var.inj c1
      exact⟨l,h',a1,.inr ⟨cs0,c0,q,a2,by omega,by rw[<-kK c2];exact q1,by rw[<-kK c2];exact q2⟩⟩
   ·have hbk':b∉keep:=hSk b hb
    have hx:=hold b (hSg b hb)
    rw[huo _ b hbk']at hx
    rcases hsn b hb with ⟨t,xs,f,h1,h2,h3,h4⟩|⟨h1,h2⟩
    ·refine .inl ⟨t,xs,f,h1,h2,by show(s.apply none e).blk b=_;rw[hx,h3],fun hb'=>?_⟩
     exact dH hI (qg hok b _ (iw _ h4)) hb'
    ·exact .inr ⟨h1,by show(s.apply none e).blk b=_;rw[hx,h2];rfl⟩
   ·show(s.apply none e).blk b=_
    rw[hold b hb,huo _ b hbk,hu0o _ b hbS];rfl
  split at h
  ·rename_i hnl
   split at h
   ·rename_i hok
    obtain rfl:=aw h
    obtain⟨h1,h2,h3,h4⟩:=main [] false (by simp) hok rfl (fun b _=> .inr ⟨by simp,rfl⟩)
    simp only[ar]at hnl
    exact⟨false,h1,fun _=>hnl,h2,h3,h4⟩
   ·cases h
  ·split at h
   ·rename_i hok
    obtain rfl:=aw h
    obtain⟨f1,f2⟩:=tq (blk:=s.blk) S s.h hSn
    obtain⟨h1,h2,h3,h4⟩:=main (pF s.blk S) true f2 hok rfl (fun b hb=>by
     rcases f1 b hb with ⟨t,xs,f,g1,g2,g3⟩|⟨g1,g2⟩
     ·exact .inl ⟨t,xs,f,rfl,g1,g2,g3⟩
     ·exact .inr ⟨fun _=>g1,g2⟩)
    exact⟨true,h1,fun h=>(by cases h),h2,h3,h4⟩
   ·cases h
 ·cases h
end
end Go.Den
namespace Go.Den
open Go.RowKit (Below)
section
variable {P:Program}{T:Tr TI}{B:Bs}{s:St}{C:Cx}{E:Tr Sem1}
def OpWp (P:Program)(B:Bs)(nt:Nat)(s:St)(C:Cx)(a:Act)(o:Oper)(e:Eff):Prop:=
 ∀(next:Act->World->Prop) (Q:Exit->Act->World->Prop),(∀u w' C',Post1 B nt s C e o.dst (a.put o.dst u) w' C'->next (a.put o.dst u) w')->o.wp P a C.w next Q
theorem DL.wp {nt:Nat}{a:Act}{o:Oper}{e:Eff}(h:DL P B nt s C a o e):OpWp P B nt s C a o e:=by
 intro next Q hn
 obtain⟨nx,u,w',C',hr,hx,hp⟩:=h
 unfold Oper.wp
 rw[hr]
 rcases hx with rfl|⟨rfl,rfl⟩
 ·exact hn u w' C' hp
 ·exact hn undef w' C' hp
theorem qQ {keep:List Nat}:∀ {l:List Nat} {b:Nat},b∈kH keep l->b∈l
 |[],b,h=>by simp[kH]at h
 |a::r,b,h=>by
  simp only[kH]at h
  split at h
  ·exact bt _ (qQ h)
  ·split at h
   ·exact bt _ (qQ h)
   ·rcases aN.1 h with rfl|h
    ·exact bq ..
    ·exact bt _ (qQ h)
theorem yC {n:Nat}:∀ {l:List Nat} {b:Nat},b∈ltN n l->b<n
 |[],b,h=>by simp[ltN]at h
 |a::r,b,h=>by
  simp only[ltN]at h
  split at h
  ·rename_i e
   rcases aN.1 h with rfl|h
   ·rwa [gO]at e
   ·exact yC h
  ·exact yC h
theorem jw.append {α β:Type}{R:α->β->Prop}:∀ {as as':List α} {bs bs':List β},jw R as bs->jw R as' bs'->jw R (as++as') (bs++bs')
 |[],_,[],_,_,h=>h
 |[],_,_::_,_,h,_=>h.elim
 |_::_,_,[],_,h,_=>h.elim
 |_::_,_,_::_,_,h,g=>⟨h.1,jw.append h.2 g⟩
theorem VP.tr {a:AV}{v:Value}(h:VP C a v):TR C a v:=by
 cases a<;>first|exact h|exact h.elim
theorem DS {L:Lay}(hEnv:∀g m,E.get g=some m->uS P L g m)(hL:L.In C.w C.ok)(hI:Inv B s C)(hfr:∀i,C.used i->i<s.n){nt:Nat}{a:Act}(hA:AInv nt s C a){o:Oper}(hd:∀i,o.dst=some i->i<nt)
  {g:FuncId} {args:List AV} {hs:List Blk} {fin:AV->List Blk->Option Eff} (h:opC E T s o= .call g args hs fin) {m:Sem1} (hm:E.get g=some m) {α:Type} {k:Eff->Option α} {ans:α}
  (hrun:m.run α args hs (fun r hs=>match fin r hs with|some e=>k e|none=>none)=some ans):∀(next:Act->World->Prop) (Q:Exit->Act->World->Prop),(∀e u w' C',k e=some ans->Post1 B nt s C e o.dst (a.put o.dst u) w' C'->next (a.put o.dst u) w')->o.wp P a C.w next Q:=by
 intro next Q hnext
 unfold opC at h
 split at h
 ·rename_i f cargs hcall
  unfold H9 at h
  split at h
  ·rename_i g' first cap hf
   unfold A5 at h
   split at h
   ·cases h
   ·rename_i m' hm'
    unfold H8 at h
    split at h
    ·rename_i hok
     obtain⟨rfl,rfl,rfl,rfl⟩:=OpRes.call.inj h
     rw[hm]at hm'
     obtain rfl:=aw hm'
     generalize hkeep:pf s.blk 60 (kL m.own (first++(cargs.map s.ev++cap))) []=keep at*
     generalize hS:kH keep (ltN s.n (kL true (first++(cargs.map s.ev++cap))))=S at*
     obtain⟨hk,hn⟩:=rP hok
     have hSk:∀b∈S,b∉keep:=fun b hb=>pb (by rw[hS];exact hb)
     have hSg:∀b∈S,b<s.n:=fun b hb=>yC (qQ (by rw[hS];exact hb))
     have hSn:S.Nodup:=by rw[<-hS];exact nG
     have hblk:s.blk=C.blk:=funext fun b=>(hI.eqb b).symm
     have hfv:=gp hA f
     rw[hf]at hfv
     obtain⟨f',c',hfe,h1,h2⟩:=(hfv:VR C (.func (.func g') first cap) (a.eval f))
     have hvs:jw (TR C) (first++(cargs.map s.ev++cap)) (f'.toList++(cargs.map a.eval++c'.toList)):=
      jw.append (h1.imp fun _ _ _=>VP.tr) (jw.append (FK hA cargs) (h2.imp fun _ _ _=>VP.tr))
     have hM:=zq (keep:=keep) (S:=S) hI
     have hhl:(gx (oS keep · 0) (kP S s.blk) s.blk keep).length=keep.length:=by
      have:∀(l:List Nat) (σ:Nat->Option Nat) (u v:Nat->Blk),(gx σ u v l).length=l.length:=fun l σ u v=>by
       induction l with
       |nil=>rfl
       |cons b r ih=>simp[gx,ih]
      exact this _ _ _ _
     have hhb:∀i,(AH (gx (oS keep · 0) (kP S s.blk) s.blk keep) keep.length m.wr).blk i=(cD C keep S).blk i:=fun i=>by
      rw[jZ,m5,hblk]
      simp only[cD]
      cases keep[i]? <;>rfl
     have hIn:=DR hI hk hn hSk m.wr (s0:=AH (gx (oS keep · 0) (kP S s.blk) s.blk keep) keep.length m.wr) hhb rfl rfl
     rw[<-hhl]at hIn
     have hc:=hEnv g' m hm (cD C keep S) _ _ (f'.toList++(cargs.map a.eval++c'.toList)).toArray (fun i=>by rw[hhl];exact Iff.rfl) (fun x hx=>⟨.inl (hL x hx).1,(hL x hx).2⟩) hIn
      (by rw[hblk];exact AllT.mv hM (by simpa using hvs)) α _ ans hrun
     rw[hhl]at hc
     ·have hex:(execOp a.eval o).run P C.w=(callFunc g' (f'.toList++(cargs.map a.eval++c'.toList)).toArray).run P C.w:=by
       obtain⟨dst,op,ty,pos,after,guard⟩:=o
       dsimp only at hcall
       unfold tT at hcall
       split at hcall
       ·rename_i c
        split at hcall
        ·rename_i f0 hcal
         obtain⟨rfl,rfl⟩:=Prod.mk.inj (aw hcall)
         have e1:(f'.toList++(c.args.toList.map a.eval++c'.toList)).toArray=f'++c.args.map a.eval++c':=by apply Array.ext';simp
         rw[e1]
         simp only[execOp,resolve,hcal,hfe,Deferred.ofValue,invoke,Sem.run_bind,Sem.run_pure,Result.andThen_ok]
        ·cases hcall
       ·cases hcall
      unfold Oper.wp
      rw[hex]
      refine hc o a next Q fun x w' ⟨r,hs',C',hk',hw',hI',hO,hu',hr⟩=>?_
      split at hk'
      rotate_left
      ·cases hk'
      rename_i e he
      subst hw'
      have hC':∀i,C'.blk i=(hs'[i]?).getD .gone:=fun i=>by rw[hI'.eqb,jZ]
      obtain⟨fz,hB,hfz,hev,hen,hqt⟩:=Io hI hfr hk hn hSk hSn hSg hC' he
      have hbr:∀i,BR (C'.okBy fun c=>if fz=true then C'.ok c else C.ok c) i (C'.blk i):=fun i=>by
       have hb:=hI'.bl i
       rw[<-hI'.eqb]at hb
       by_cases e:fz=true
       ·have:C'.okBy (fun c=>if fz=true then C'.ok c else C.ok c)=C':=by
         have e2:(fun c=>if fz=true then C'.ok c else C.ok c)=C'.ok:=by funext c;rw[aa e]
         rw[e2];rfl
        rw[this];exact hb
       ·refine hb.nl ?_
        rw[hC']
        exact vM (hfz (by simpa using e)).2 i
      have hMb:=Fh hI hfr hk hI' hO hu' hB hbr
      have hrv:TR (l9 C C' (fun c=>if fz=true then C'.ok c else C.ok c) s.n keep.length hs'.length fun i=>(s.apply none e).blk i) e.v x:=by
       rw[hev]
       refine TR.mv hMb ?_
       by_cases e:fz=true
       ·have:C'.okBy (fun c=>if fz=true then C'.ok c else C.ok c)=C':=by
         have e2:(fun c=>if fz=true then C'.ok c else C.ok c)=C'.ok:=by funext c;rw[aa e]
         rw[e2];rfl
        rw[this];exact hr
       ·exact hr.nl (hfz (by simpa using e)).1
      have hE:=CB hI hfr hI' hO hB
      refine hnext e x C'.w (l9 C C' (fun c=>if fz=true then C'.ok c else C.ok c) s.n keep.length hs'.length fun i=>(s.apply none e).blk i) hk' ⟨rfl,H5 hI hfr hk hI' hO hu' hB hbr (s1:=s.apply o.dst e) (fun i=>by simp only[St.apply,gV]) (mh _ _ _) (mf _ _ _),th hA hE hd hrv,hE,fun b=>?_,fun hq=>⟨hI'.frm.1.os,hI'.frm.1.tape,hI'.frm.1.output,hI'.frm.1.size,fun c hc=>?_⟩⟩
      rotate_left
      ·by_cases g:∃k,k<keep.length/\(lT (cD C keep S) keep.length m.wr).loc0 k=some c
       ·obtain⟨k,hkl,hkc⟩:=g
        exact hI'.prt2 k hkl c hkc (hqt hq k hkl)
       ·exact hI'.frm.2 c hc fun k hk e=>g ⟨k,hk,e⟩
      have hl:=hB.len
      simp only[l9,hen]
      constructor
      ·rintro(h|⟨h1,h2⟩)
       ·exact .inl h
       ·exact .inr ⟨h1,by omega⟩
      ·rintro(h|⟨h1,h2⟩)
       ·exact .inl h
       ·exact .inr ⟨h1,by omega⟩
    ·cases h
  ·cases h
 ·unfold Dd at h
  split at h
  ·cases h
  ·rename_i hno
   exact ah h (by intro e;exact hno _ _ _ _ e)
end
end Go.Den
namespace Go.Den
open Go.RowKit (Below)
structure Good (B:Bs)(nt:Nat)(s:St)(C:Cx)(a:Act)(w:World):Prop where
 w:C.w=w
 inv:Inv B s C
 ain:AInv nt s C a
 old:Old B C
 fr:∀i,C.used i->i<s.n
theorem BK_true {x y:Blk}{l:Prop}(h:BK x y l):BK x y True:=by
 cases x with
 |row t xs f=>exact h.imp id fun h=>⟨trivial,h.2⟩
 |_=>exact h
theorem Old.ext {B:Bs}{s:St}{C C':Cx}(h:Old B C)(hI:Inv B s C)(E:Ext C C'):Old B C' where
 keep i hi:=(h.keep i hi).trans (BK_true (E.keep i (hI.pus i hi))) fun _ _=>trivial
 cell c o v hc hv:=E.cell c o v (h.ok c hc) (h.cell c o v hc hv)
 ok c hc:=E.ok c (h.ok c hc)
section
variable {P:Program}{T:Tr TI}{E:Tr Sem1}{B:Bs}{nt:Nat}{s:St}{C:Cx}{a:Act}{w:World}
theorem Good.step (h:Good B nt s C a w){e:Eff}{d:Option Tmp}{a':Act}{w':World}{C':Cx}(p:Post1 B nt s C e d a' w' C'):Good B nt (s.apply d e) C' a' w' where
 w:=p.w
 inv:=p.inv
 ain:=p.ain
 old:=h.old.ext h.inv p.ext
 fr i hi:=by
  rw[mZ]
  rcases(p.use i).1 hi with h'|h'
  ·have:=h.fr i h';omega
  ·exact h'.2
theorem Good.put (h:Good B nt s C a w){d:Option Tmp}(hd:∀i,d=some i->i<nt){v:AV}{x:Value}(hv:TR C v x):Good B nt (s.put d v) C (a.put d x) w where
 w:=h.w
 inv:=h.inv.same (gV _ _ _) (ry _ _ _) (rv _ _ _)
 ain:=h.ain.put (Ext.refl C) (fun _=>rfl) hd hv
 old:=h.old
 fr i hi:=by rw[yM];exact h.fr i hi
theorem A0 {α:Type}{x:Option α}{ans:α}:∀ {asks:List Bool},Fg asks x=some ans->(∀b∈asks,b=true)/\x=some ans
 |[],h=>⟨by simp,h⟩
 |b::r,h=>by
  cases b with
  |false=>cases h
  |true=>
   obtain⟨h1,h2⟩:=A0 (asks:=r) (x:=x) h
   exact⟨fun c hc=>(aN.1 hc).elim id (h1 c),h2⟩
structure Env0 (P:Program)(T:Tr TI)(E:Tr Sem1)(L:Lay):Prop where
 tok:TOK P T
 eq:DH P T
 env:∀g m,E.get g=some m->uS P L g m
 mix:P.follows .mixedOrders=true
structure Env (P:Program)(T:Tr TI)(E:Tr Sem1)(B:Bs):Prop where
 tok:TOK P T
 eq:DH P T
 env:∃L:Lay,(∀g m,E.get g=some m->uS P L g m)/\L.In B.w0 B.ok0
 mix:P.follows .mixedOrders=true
theorem Env0.at {P:Program}{T:Tr TI}{E:Tr Sem1}{L:Lay}(h:Env0 P T E L){B:Bs}(hL:L.In B.w0 B.ok0):Env P T E B:=⟨h.tok,h.eq,⟨L,h.env,hL⟩,h.mix⟩
theorem Hm (hV:Env P T E B)(hG:Good B nt s C a w){o:Oper}(hd:∀i,o.dst=some i->i<nt){α:Type}{k:Eff->Option α}{ans:α}(h:KF E (opC E T s o) k=some ans):
  ∀(next:Act->World->Prop) (Q:Exit->Act->World->Prop),(∀e u w' C',k e=some ans->Post1 B nt s C e o.dst (a.put o.dst u) w' C'->next (a.put o.dst u) w')->o.wp P a w next Q:=by
 cases hr:opC E T s o with
 |none=>rw[hr]at h;cases h
 |ret asks e=>
  rw[hr]at h
  obtain⟨h1,h2⟩:=A0 h
  intro next Q hnext
  have ho:opN T s o= .ret asks e:=by
   unfold opC at hr
   split at hr
   ·unfold H9 at hr
    split at hr
    ·unfold A5 at hr
     split at hr
     ·cases hr
     ·unfold H8 at hr
      split at hr<;>cases hr
    ·cases hr
   ·unfold Dd at hr
    split at hr
    ·cases hr
    ·exact hr
  have:=(Dj hV.tok hV.eq hG.inv hG.ain hd ho h1 fun i _ hu=>by have:=hG.fr _ hu;omega).wp
  unfold OpWp at this
  rw[hG.w]at this
  exact this next Q fun u w' C' p=>hnext e u w' C' h2 p
 |call g args hs fin=>
  rw[hr]at h
  simp only[KF]at h
  split at h
  ·cases h
  ·rename_i m hm
   obtain⟨L,he,hl⟩:=hV.env
   have h2:=DS he (fun x hx=>⟨hG.old.ok _ (hl x hx).1,(hl x hx).2.mono (fun _ h=>hG.inv.shp _ _ h) fun o v hv=>hG.old.cell _ _ _ (hl x hx).1 hv⟩) hG.inv hG.fr hG.ain hd hr hm h
   rw[hG.w]at h2
   exact h2
def LWp (P:Program)(ops:Array Oper)(Q:Exit->Act->World->Prop):List Oper->(Act->World->Prop)->Act->World->Prop
 |[],K,a,w=>K a w
 |o::r,K,a,w=>if Region.wanted o (yielded ops a.tmps)then o.wp P a w (LWp P ops Q r K) Q else LWp P ops Q r K (a.put o.dst undef) w
theorem LWp.list {ops:Array Oper}{Q:Exit->Act->World->Prop}:∀ {l:List Oper} {a:Act} {w:World},LWp P ops Q l (Q .normal) a w->wpList P ops Q l a w
 |[],_,_,h=>h
 |o::r,a,w,h=>by
  unfold LWp at h
  unfold wpList
  split
  ·rename_i hw
   rw[aa hw]at h
   exact .inl (Oper.wp_mono (fun a w h=>LWp.list h) h)
  ·rename_i hw
   rw[ae hw]at h
   exact LWp.list h
theorem LWp.append {ops:Array Oper}{Q:Exit->Act->World->Prop}{K:Act->World->Prop}{r:List Oper}:∀ {l:List Oper} {a:Act} {w:World},LWp P ops Q l (LWp P ops Q r K) a w->LWp P ops Q (l++r) K a w
 |[],_,_,h=>h
 |o::l,a,w,h=>by
  simp only[ol]
  unfold LWp at h|-
  split
  ·rename_i hw
   rw[aa hw]at h
   exact Oper.wp_mono (fun a w h=>LWp.append h) h
  ·rename_i hw
   rw[ae hw]at h
   exact LWp.append h
theorem rA {d:Tmp}:∀ {l acc pre post:List Oper} {p:Oper},oO d acc l=some (pre,p,post)->acc.reverse++l=pre++p::post/\∃x y,p.op= .pick (.tmp d) x y
 |[],acc,pre,post,p,h=>by cases h
 |o::r,acc,pre,post,p,h=>by
  simp only[oO]at h
  have ih:oO d (o::acc) r=some (pre,p,post)->acc.reverse++o::r=pre++p::post/\∃x y,p.op= .pick (.tmp d) x y:=fun h=>by
   have:=rA h
   simpa using this
  split at h
  ·rename_i c x y hop
   split at h
   ·rename_i hc
    obtain⟨rfl,rfl,rfl⟩:acc.reverse=pre/\o=p/\r=post:=by simpa using h
    exact⟨rfl,x,y,by rw[hop,j4.1 hc]⟩
   ·exact ih h
  ·exact ih h
theorem wY (i:Tmp):∀(l:List Oper) (s:St),(pq s l).get i=s.get i/\(∀o∈l,o.dst≠some i)\/(pq s l).get i= .dead
 |[],s=> .inl ⟨rfl,by simp⟩
 |o::r,s=>by
  rcases wY i r (s.put o.dst .dead)with ⟨h1,h2⟩|h
  ·rw[lW]at h1
   split at h1
   ·exact .inr h1
   ·rename_i hne
    refine .inl ⟨h1,fun q hq=>?_⟩
    rcases aN.1 hq with rfl|hq
    ·exact hne
    ·exact h2 q hq
  ·exact .inr h
theorem vB:∀(l:List Oper) (s:St),(pq s l).blk=s.blk/\(pq s l).n=s.n/\(pq s l).np=s.np/\(pq s l).al=s.al/\(pq s l).w=s.w
 |[],_=>⟨rfl,rfl,rfl,rfl,rfl⟩
 |o::r,s=>by
  obtain⟨h1,h2,h3,h4,h5⟩:=vB r (s.put o.dst .dead)
  exact⟨h1.trans (gV ..),h2.trans (yM ..),h3.trans (ry ..),h4.trans (rv ..),h5.trans (by cases o.dst<;>rfl)⟩
theorem EK {b:Bool}:undef≠ .bool b:=by simp[undef]
theorem sG {v:Array Value}{i:Nat}{b:Bool}(h:v.getD i undef= .bool b):v[i]? =some (.bool b):=by
 by_cases hi:i<v.size
 ·simpa[Array.getD,hi]using h
 ·exact ah (by simpa[Array.getD,hi]using h) EK
theorem Good.grown (h:Good B nt s C a w){w':World}(hb:Below w.heap.size w w'):Inv B s {C with w:=w'}/\Ext C {C with w:=w'}:=by
 have hw:=h.w
 subst hw
 have hI:=h.inv
 have hold:∀c,c<C.w.heap.size->w'.heap[c]? =C.w.heap[c]? :=hb.block
 have hE:Ext C {C with w:=w'}:=
  {loc:=fun _ _ h=>h,used:=fun _ h=>h,keep:=fun _ _=>BK.refl _ rfl
   cell:=fun c o v hc hv=>by rw[<-hv];exact m6 (hold c (hI.okd c hc).1)
   ok:=fun _ h=>h
   shape:=fun c x hx=>by rw[<-hx];exact tM (hold c (Dv hx))}
 refine⟨{eqb:=hI.eqb,bl:=fun i=>(hI.bl i).ext hE rfl fun c hc=>hold c (hI.lt i c hc),inj:=hI.inj,lt:=fun i c hc=>dB (hI.lt i c hc) hb.size,us:=hI.us,okd:=fun c hc=>⟨dB (hI.okd c hc).1 hb.size,(hI.okd c hc).2⟩,okS:=hI.okS,own:=hI.own,lt0:=hI.lt0,inj0:=hI.inj0,pas:=hI.pas,pus:=hI.pus,frm:=⟨hI.frm.1.trans (hb.mono (iG _)),fun c hc hn=>?_⟩,prt:=fun i hi c hc o hm=>?_,prt2:=fun i hi c hc hm=>?_,stay:=hI.stay,shp:=fun c x hx=>hE.shape c x (hI.shp c x hx),wid:=hI.wid,npn:=hI.npn,all:=hI.all},hE⟩
 ·exact(hold c (dB hc hI.frm.1.size)).trans (hI.frm.2 c hc hn)
 ·exact(m6 (hold c (hI.lt i c ((hI.pas i hi).trans hc)))).trans (hI.prt i hi c hc o hm)
 ·exact(hold c (hI.lt i c ((hI.pas i hi).trans hc))).trans (hI.prt2 i hi c hc hm)
end
end Go.Den
namespace Go.Den
open Go.RowKit (Below)
section
variable {P:Program}{T:Tr TI}{E:Tr Sem1}{B:Bs}{nt:Nat}
structure Kept (l:List Oper)(s s':St)(a a':Act)(w w':World):Prop where
 quiet:s'.w=false->s.w=false/\Below w.heap.size w w'
 slot:∀i:Nat,(∀o∈l,o.dst≠some i)->a'.tmps[i]? =a.tmps[i]?
theorem Kept.refl {l:List Oper}(s:St)(a:Act)(w:World):Kept l s s a a w w:=⟨fun h=>⟨h,Below.refl _ _⟩,fun _ _=>rfl⟩
theorem Kept.trans {l:List Oper}{s s' s'':St}{a a' a'':Act}{w w' w'':World}(h:Kept l s s' a a' w w')(k:Kept l s' s'' a' a'' w' w''):Kept l s s'' a a'' w w'' where
 quiet e:=by
  obtain⟨h1,h2⟩:=k.quiet e
  obtain⟨h3,h4⟩:=h.quiet h1
  exact⟨h3,h4.trans (h2.mono h4.size)⟩
 slot i hi:=(k.slot i hi).trans (h.slot i hi)
theorem Kept.sub {l m:List Oper}{s s':St}{a a':Act}{w w':World}(h:Kept l s s' a a' w w')(hs:∀o∈l,o∈m):Kept m s s' a a' w w':=
 ⟨h.quiet,fun i hi=>h.slot i fun o ho=>hi o (hs o ho)⟩
theorem yN {a:Act}{d:Option Tmp}{v:Value}{i:Nat}(h:d≠some i):(a.put d v).tmps[i]? =a.tmps[i]? :=by
 cases d with
 |none=>rfl
 |some k=>simp only[Act.put];exact sO (fun e=>h (by rw[e]))
theorem apply_w (s:St)(d:Option Tmp)(e:Eff):(s.apply d e).w=match isNil e.upd with|true=>s.w|false=>true:=by
 simp only[St.apply];cases d<;>rfl
theorem put_w (s:St)(d:Option Tmp)(v:AV):(s.put d v).w=s.w:=by cases d<;>rfl
theorem Kept.step {l:List Oper}{s:St}{C C':Cx}{a:Act}{w w':World}{o:Oper}(ho:o∈l){e:Eff}{u:Value}(hG:Good B nt s C a w)(p:Post1 B nt s C e o.dst (a.put o.dst u) w' C'):Kept l s (s.apply o.dst e) a (a.put o.dst u) w w' where
 quiet h:=by
  rw[apply_w]at h
  cases hu:e.upd with
  |nil=>rw[hu]at h;exact⟨h,by have:=p.quiet hu;rwa [hG.w]at this⟩
  |cons=>rw[hu]at h;cases h
 slot i hi:=yN (hi o ho)
theorem wn {C:Cx}:TR C (.tup []) undef:=⟨#[],rfl,trivial⟩
theorem AK {C:Cx}{v:Value}(h:TR C (.tup []) v):v=undef:=by
 obtain⟨l,rfl,h⟩:=h
 have:l.toList=[]:=by cases hl:l.toList with
  |nil=>rfl
  |cons a r=>rw[hl]at h;exact h.elim
 rw[show l= #[]from by simpa using this];rfl
theorem sL {ops:Array Oper}{tmps:Array Value}{j:Nat}{d:Tmp}(hj:ui ops.toList j=some d)(h:tmps.getD d undef=undef):yielded ops tmps j=none:=by
 unfold ui at hj
 rw[nth_eq]at hj
 split at hj
 ·rename_i q hq
  have hq':ops[j]? =some q:=by simpa using hq
  simp only[yielded,hq',qA,hj]
  by_cases hd:d<tmps.size
  ·have:tmps[d]? =some undef:=by
    rw[<-h];simp[Array.getD,hd]
   rw[this];rfl
  ·rw[sR (Nat.le_of_not_lt hd)]
 ·cases hj
theorem zH {ops:Array Oper}{kn:List Nat}{s:St}{C:Cx}{a:Act}{w:World}(hG:Good B nt s C a w){o:Oper}(h:goesP ops.toList kn s o=true):Region.wanted o (yielded ops a.tmps)=true:=by
 unfold goesP at h
 split at h
 ·rename_i e;simp[Region.wanted,e]
 ·rename_i j want hg
  split at h
  ·rename_i d _ hj
   have hy:∀(b:Bool),s.get d= .bool b->yielded ops a.tmps j=some b:=fun b hb=>by
    have hv:a.tmps.getD d undef= .bool b:=by have:=hG.ain.tm d;rw[hb]at this;exact this
    unfold ui at hj
    rw[nth_eq]at hj
    split at hj
    ·rename_i q hq
     have hq':ops[j]? =some q:=by simpa using hq
     simp only[yielded,hq',qA,hj,sG hv]
    ·cases hj
   split at h
   ·rename_i hs;simp[Region.wanted,hg,hy true hs]
   ·rename_i hs;simp[Region.wanted,hg,hy false hs]
   ·cases h
  ·cases h
theorem mJ (hV:Env P T E B)(ops:Array Oper)(Q:Exit->Act->World->Prop):∀(f:Nat) (kn:List Nat) (α:Type) (l:List Oper) (s:St) (k:St->Option α) (ans:α) (C:Cx) (a:Act) (w:World) (K:Act->World->Prop),
  yK E T ops.toList f kn α l s k=some ans->(∀o∈l,∀i,o.dst=some i->i<nt)->Good B nt s C a w->
  (∀s' C' a' w',Good B nt s' C' a' w'->Kept l s s' a a' w w'->k s'=some ans->K a' w')->LWp P ops Q l K a w
 |0,_,_,_,_,_,_,_,_,_,_,h,_,_,_=>by cases h
 |_+1,_,_,[],s,k,ans,C,a,w,K,h,_,hG,hK=>hK s C a w hG (Kept.refl ..) h
 |f+1,kn,α,o::r,s,k,ans,C,a,w,K,h,hd,hG,hK=>by
  have hdo:=hd o (bq ..)
  have hdr:∀o∈r,∀i,o.dst=some i->i<nt:=fun q hq=>hd q (bt _ hq)
  have run:Region.wanted o (yielded ops a.tmps)=true->(KF E (opC E T s o) fun e=>yK E T ops.toList f kn α r (s.apply o.dst e) k)=some ans->LWp P ops Q (o::r) K a w:=by
   intro hw h
   have h2:=Hm hV hG hdo h
   unfold LWp
   rw[aa hw]
   refine h2 _ Q fun e u w' C' h1 p=>?_
   exact mJ hV ops Q f kn α r _ k ans C' _ w' K h1 hdr (hG.step p) fun s'' C'' a'' w'' g kp hk=>hK s'' C'' a'' w'' g ((Kept.step (bq ..) hG p).trans (kp.sub fun q hq=>bt _ hq)) hk
  have skip:Region.wanted o (yielded ops a.tmps)=false->yK E T ops.toList f kn α r (s.put o.dst (.tup [])) k=some ans->LWp P ops Q (o::r) K a w:=by
   intro hw h
   unfold LWp
   rw[ae (by rw[hw];simp)]
   refine mJ hV ops Q f kn α r _ k ans C _ w K h hdr (hG.put hdo wn) fun s'' C'' a'' w'' g kp hk=>hK s'' C'' a'' w'' g ?_ hk
   refine Kept.trans ⟨fun e=>⟨by rw[put_w]at e;exact e,Below.refl _ _⟩,fun i hi=>yN (hi o (bq ..))⟩ (kp.sub fun q hq=>bt _ hq)
  simp only[yK]at h
  split at h
  ·rename_i hg
   exact run (by simp[Region.wanted,hg]) h
  ·rename_i j want hg
   split at h
   ·cases h
   ·rename_i d hj
    have hyd:∀(b:Bool),a.tmps.getD d undef= .bool b->yielded ops a.tmps j=some b:=fun b hb=>by
     unfold ui at hj
     rw[nth_eq]at hj
     split at hj
     ·rename_i q hq
      have hq':ops[j]? =some q:=by simpa using hq
      simp only[yielded,hq',qA,hj,sG hb]
     ·cases hj
    have hwant:∀(b:Bool),s.get d= .bool b->Region.wanted o (yielded ops a.tmps)=(b==want):=fun b hb=>by
     have:a.tmps.getD d undef= .bool b:=by have:=hG.ain.tm d;rw[hb]at this;exact this
     simp only[Region.wanted,hg,hyd b this]
     cases b<;>cases want<;>rfl
    split at h
    ·rename_i hs
     refine skip ?_ h
     have hu:=AK (by have:=hG.ain.tm d;rw[hs]at this;exact this)
     simp[Region.wanted,hg,sL hj hu]
    ·rename_i b hs
     split at h
     ·split at h
      ·exact run (hwant true hs) h
      ·exact run (hwant false hs) h
      ·exact skip (hwant false hs) h
      ·exact skip (hwant true hs) h
     ·split at h
      ·
       have hbv:a.tmps.getD d undef= .bool b:=by have:=hG.ain.tm d;rw[hs]at this;exact this
       have both:∀t:Bool,b=t->yK E T ops.toList f (j::kn) α (o::r) {s with t:=(d,.bool t)::s.t} k=some ans->LWp P ops Q (o::r) K a w:=by
        intro t hbt h1
        subst hbt
        have hG0:Good B nt {s with t:=(d,.bool b)::s.t} C a w:=
         {w:=hG.w,inv:=hG.inv.same rfl rfl rfl,old:=hG.old,fr:=hG.fr
          ain:=⟨hG.ain.dfr,hG.ain.siz,fun i=>by
           show TR C ((s.put (some d) (.bool b)).get i) _
           rw[lW]
           split
           ·rename_i e
            obtain rfl:=aw e
            exact hbv
           ·exact hG.ain.tm i⟩}
        exact mJ hV ops Q f (j::kn) α (o::r) _ k ans C a w K h1 hd hG0 fun s'' C'' a'' w'' g kp hk=>hK s'' C'' a'' w'' g ⟨kp.quiet,kp.slot⟩ hk
       cases hb:b with
       |true=>rw[hb]at h;exact both true hb h
       |false=>rw[hb]at h;exact both false hb h
      split at h
      ·rename_i pre p post hsp
       split at h
       ·cases h
       ·rename_i hpg
        obtain⟨hsplit,x,y,hpop⟩:=rA hsp
        simp only[List.reverse_nil,List.nil_append]at hsplit
        rw[hsplit]at hd|-
        have hdd:d<nt:=by
         have hv:a.tmps.getD d undef= .bool b:=by have:=hG.ain.tm d;rw[hs]at this;exact this
         have:=sG hv
         rw[<-hG.ain.siz];exact(mR.1 this).1
        have hbv:a.tmps.getD d undef= .bool b:=by have:=hG.ain.tm d;rw[hs]at this;exact this
        have branch:∀(t:Bool) (v:Bool),b=t->yK E T ops.toList f (j::kn) Bool pre {s with t:=(d,.bool t)::s.t,w:=false} (finB p)=some v->yK E T ops.toList f kn α post ((pq s pre).put p.dst (.bool v)) k=some ans->
          LWp P ops Q (pre++p::post) K a w:=by
         intro t v hbt h1 h2
         subst hbt
         refine LWp.append ?_
         have hG0:Good B nt {s with t:=(d,.bool b)::s.t,w:=false} C a w:=
          {w:=hG.w,inv:=hG.inv.same rfl rfl rfl,old:=hG.old,fr:=hG.fr
           ain:=⟨hG.ain.dfr,hG.ain.siz,fun i=>by
            show TR C ((s.put (some d) (.bool b)).get i) _
            rw[lW]
            split
            ·rename_i e
             obtain rfl:=aw e
             exact hbv
            ·exact hG.ain.tm i⟩}
         refine mJ hV ops Q f (j::kn) Bool pre _ (finB p) v C a w _ h1 (fun q hq=>hd q (iw _ hq)) hG0 fun s' C' a' w' g kp hk=>?_
         unfold finB at hk
         split at hk
         ·rename_i hsw
          obtain⟨_,hbel⟩:=kp.quiet hsw
          obtain⟨hI'',hE''⟩:=hG.grown hbel
          obtain⟨r1,r2,r3,r4,r5⟩:=vB pre s
          have hG'':Good B nt (pq s pre) {C with w:=w'} a' w':=
           {w:=rfl,inv:=hI''.same r1 r3 r4,old:=hG.old.ext hG.inv hE'',fr:=fun i hi=>by rw[r2];exact hG.fr i hi
            ain:=⟨g.ain.dfr,g.ain.siz,fun i=>by
             rcases wY i pre s with ⟨e1,e2⟩|e1
             ·rw[e1]
              have:a'.tmps.getD i undef=a.tmps.getD i undef:=by
               rw[sa,sa,kp.slot i e2]
              rw[this]
              exact(hG.ain.tm i).ext hE''
             ·rw[e1];trivial⟩}
          have hpv:(execOp a'.eval p).run P w'= .ok (.value (.bool v)) w':=by
           unfold pickB at hk
           rw[hpop]at hk
           dsimp only at hk
           have hcv:=g.ain.tm d
           have he:a'.eval (.tmp d)=a'.tmps.getD d undef:=rfl
           split at hk
           ·rename_i hc
            rw[hc]at hcv
            have hcv:a'.tmps.getD d undef= .bool true:=hcv
            split at hk
            ·rename_i r hr
             obtain rfl:=aw hk
             have:=gp g.ain x
             rw[hr]at this
             have this:a'.eval x= .bool r:=this
             simp[execOp,hpop,he,hcv,asBool,this]
            ·cases hk
           ·rename_i hc
            rw[hc]at hcv
            have hcv:a'.tmps.getD d undef= .bool false:=hcv
            split at hk
            ·rename_i r hr
             obtain rfl:=aw hk
             have:=gp g.ain y
             rw[hr]at this
             have this:a'.eval y= .bool r:=this
             simp[execOp,hpop,he,hcv,asBool,this]
            ·cases hk
           ·cases hk
          have hpm:p∈pre++p::post:=gb _ (bq ..)
          have hpd:=hd p hpm
          unfold LWp
          rw[aa (zH hG'' hpg)]
          unfold Oper.wp
          rw[hpv]
          show LWp P ops Q post K (a'.put p.dst (.bool v)) w'
          refine mJ hV ops Q f kn α post _ k ans _ _ w' K h2 (fun q hq=>hd q (gb _ (bt _ hq))) (hG''.put hpd rfl) fun s'' C'' a'' w'' g' kp' hk'=>hK s'' C'' a'' w'' g' ?_ hk'
          rw[hsplit]
          refine Kept.trans ⟨fun e=>?_,fun i hi=>?_⟩ (kp'.sub fun q hq=>gb _ (bt _ hq))
          ·rw[put_w,r5]at e
           exact⟨e,hbel⟩
          ·rw[yN (hi p hpm)]
           exact kp.slot i fun q hq=>hi q (iw _ hq)
         ·cases hk
        cases hb:b with
        |true=>
         rw[hb]at h
         simp only[br,bnd,cond_true]at h
         obtain⟨v,h1,h2⟩:=qq.1 h
         exact branch true v hb h1 h2
        |false=>
         rw[hb]at h
         simp only[br,bnd,cond_false]at h
         obtain⟨v,h1,h2⟩:=qq.1 h
         exact branch false v hb h1 h2
      ·cases h
    ·cases h
end
end Go.Den
namespace Go.Den
open Go.RowKit (Below)
def WB (x y:Blk):Prop:=y= .gone\/x=y\/∃cs es,x= .var cs/\y= .var es/\es.map AV.width=cs.map AV.width/\∀C g,CR C cs g->CR C es g
theorem WB.br {C:Cx}{i:Nat}{x y:Blk}(h:WB x y)(hb:BR C i x):BR C i y:=by
 rcases h with rfl|rfl|⟨cs,es,rfl,rfl,hw,hc⟩
 ·trivial
 ·exact hb
 ·obtain⟨c,arr,T,fr,h1,h2,h3,h4,h5⟩:=hb
  exact⟨c,arr,T,fr,h1,h2,by rw[h3,iI hw],hc _ _ h4,h5⟩
theorem WB.wrt {x y:Blk}(h:WB x y)(hy:wrt y=true):Go.Den.wrt x=true:=by
 rcases h with rfl|rfl|⟨cs,es,rfl,rfl,_⟩
 ·cases hy
 ·exact hy
 ·rfl
theorem WB.nongone {x y:Blk}(h:WB x y)(hy:y≠ .gone):x≠ .gone/\(Go.Den.wrt x=true->Go.Den.wrt y=true):=by
 rcases h with rfl|rfl|⟨cs,es,rfl,rfl,_⟩
 ·exact ah rfl hy
 ·exact⟨hy,id⟩
 ·exact⟨by simp,fun _=>rfl⟩
def tI (C:Cx)(keep:List Nat)(nb:Nat->Blk):Cx where
 w:=C.w
 loc:=fun i=>(keep[i]?).bind C.loc
 blk:=nb
 ok:=fun c=>C.ok c\/∃b,b∉keep/\(∃t xs f,C.blk b= .row t xs f)/\C.loc b=some c
 used:=fun i=>i<keep.length
section
variable {B:Bs}{nt:Nat}{s s':St}{C:Cx}{a:Act}{w:World}{keep:List Nat}
structure Renum (B:Bs)(s s':St)(keep:List Nat):Prop where
 nodup:keep.Nodup
 np:∀i,i<B.np->keep[i]? =some i
 blk:∀i b,keep[i]? =some b->WB (nV (oS keep · 0) s.blk (s.blk b)) (s'.blk i)
 out:∀i,keep.length<=i->s'.blk i= .gone
 kept:∀i,i<B.np->s'.blk i= .gone->s.blk i= .gone
 n:s'.n=keep.length
 nps:s'.np=s.np
 als:s'.al=s.al
theorem uG (hI:Inv B s C)(hR:Renum B s s' keep):Mv (oS keep · 0) s.blk C (tI C keep s'.blk) where
 w:=rfl
 ok c h:= .inl h
 loc b i h _:=by simp[tI,pG h]
 used b i h _:=(bj.1 (pG h)).1
 row b i h _ t ys g hg:=by
  have hw:=hR.blk i b (pG h)
  have hg:s'.blk i= .row t ys g:=hg
  rcases hw with e|e|⟨cs,es,_,e,_⟩
  ·rw[e]at hg;cases hg
  ·rw[hg]at e;exact⟨ys,g,by rw[hI.eqb];exact uF e,rfl⟩
  ·rw[e]at hg;cases hg
 rowA b i h _ ds hg:=by
  have hw:=hR.blk i b (pG h)
  have hg:s'.blk i= .rowA ds:=hg
  rcases hw with e|e|⟨cs,es,_,e,_⟩
  ·rw[e]at hg;cases hg
  ·rw[hg]at e;rw[hI.eqb];exact sF e
  ·rw[e]at hg;cases hg
 snap b hb _ t xs f hr:=by
  have hr':C.blk b= .row t xs f:=by rw[hI.eqb];exact hr
  exact⟨hr',fun c hc=> .inr ⟨b,zL hb,⟨t,xs,f,hr'⟩,hc⟩⟩
 us b c h:=lc hI h
 br b:=by rw[hI.eqb];exact hI.bl b
theorem v6 (hI:Inv B s C)(hR:Renum B s s' keep):Inv B s' (tI C keep s'.blk):=by
 have hM:=uG hI hR
 have hloc:∀i b,keep[i]? =some b->(tI C keep s'.blk).loc i=C.loc b:=fun i b h=>by simp[tI,h]
 have hlocs:∀i c,(tI C keep s'.blk).loc i=some c->∃b,keep[i]? =some b/\C.loc b=some c:=fun i c h=>by
  simp only[tI]at h
  cases hki:keep[i]? with
  |none=>rw[hki]at h;cases h
  |some b=>rw[hki]at h;exact⟨b,rfl,h⟩
 have hgone:∀i,s'.blk i≠ .gone->∃b,keep[i]? =some b/\s.blk b≠ .gone:=fun i h=>by
  cases hki:keep[i]? with
  |none=>exact ah (hR.out i (px.1 hki)) h
  |some b=>exact⟨b,rfl,fun e=>((hR.blk i b hki).nongone h).1 (by rw[e];rfl)⟩
 have hng:∀i b,keep[i]? =some b->s'.blk i≠ .gone->s.blk b≠ .gone:=fun i b h g=>by
  obtain⟨b',h1,h2⟩:=hgone i g
  rw[h]at h1;cases h1;exact h2
 have hwr:∀i b,keep[i]? =some b->wrt (s'.blk i)=true->wrt (s.blk b)=true:=fun i b h g=>by
  have:=(hR.blk i b h).wrt g
  rwa [li]at this
 have hwk:∀i,i<B.np->WK (s.blk i) (s'.blk i):=fun i hi=>by
  rcases hR.blk i i (hR.np i hi)with e|e|⟨cs,es,e1,e2,e3,_⟩
  ·rw[hR.kept i hi e,e];exact⟨fun cs h=>(by cases h),fun ds h=>(by cases h)⟩
  ·rw[<-e]
   refine⟨fun cs h=>⟨_,by rw[h];rfl,gu cs⟩,fun ds h=>?_⟩
   obtain⟨cs,h1,_⟩:=mK h
   exact⟨cs,h1⟩
  ·obtain⟨cs',h1,h2⟩:=mK e1
   rw[h1,e2]
   refine⟨fun ds h=>?_,fun ds _=>⟨cs',rfl⟩⟩
   obtain rfl:=Blk.var.inj h
   exact⟨es,rfl,e3.trans h2.symm⟩
 refine {eqb:=fun i=>rfl,bl:=fun i=>?_,inj:=fun i j c hi hj h1 h2=>?_,lt:=fun i c h=>?_,us:=fun i hu=>?_,okd:=fun c hc=>?_,okS:=fun c hc=>?_,own:=fun i c hi h=>?_,lt0:=hI.lt0,inj0:=hI.inj0,pas:=fun i hi=>?_,pus:=fun i hi=>?_,frm:=hI.frm,prt:=hI.prt,prt2:=hI.prt2,stay:=fun i hi hm=>?_,shp:=hI.shp,wid:=fun i hi=>(hI.wid i hi).trans (hwk i hi),npn:=hR.nps.trans hI.npn,all:=hR.als.trans hI.all}
 ·cases hki:keep[i]? with
  |none=>rw[hR.out i (px.1 hki)];trivial
  |some b=>exact(hR.blk i b hki).br (BR.mv hM (hloc i b hki) (hI.bl b))
 ·obtain⟨b,e1,e2⟩:=hlocs i c h1
  obtain⟨b',g1,g2⟩:=hlocs j c h2
  obtain rfl:=hI.inj b b' c (hng i b e1 hi) (hng j b' g1 hj) e2 g2
  exact so hR.nodup e1 g1
 ·obtain⟨b,e1,e2⟩:=hlocs i c h
  exact hI.lt b c e2
 ·have:keep.length<=i:=by simpa[tI]using hu
  exact⟨hR.out i this,by simp[tI,fF this]⟩
 ·rcases hc with hc|⟨b,hbk,⟨t,xs,f,hbr⟩,hl⟩
  ·obtain⟨h1,h2⟩:=hI.okd c hc
   refine⟨h1,fun i hi h=>?_⟩
   obtain⟨b,e1,e2⟩:=hlocs i c h
   exact h2 b (hwr i b e1 hi) e2
  ·refine⟨hI.lt b c hl,fun i hi h=>?_⟩
   obtain⟨b',e1,e2⟩:=hlocs i c h
   have:b=b':=hI.inj b b' c (by rw[<-hI.eqb,hbr];simp) (hng i b' e1 fun e=>by rw[e]at hi;cases hi) hl e2
   exact hbk (this▸cw e1)
 ·have hws:∀i,i<B.np->wrt (s.blk i)=false->wrt (s'.blk i)=false:=fun i hi h=>by
   cases hw:wrt (s'.blk i)with
   |false=>rfl
   |true=>rw[hwr i i (hR.np i hi) hw]at h;cases h
  rcases hc with hc|⟨b,hbk,⟨t,xs,f,hbr⟩,hl⟩
  ·rcases hI.okS c hc with h|h|⟨i,h1,h2,h3,h4⟩
   ·exact .inl h
   ·exact .inr (.inl h)
   ·exact .inr (.inr ⟨i,h1,h2,hws i h1 h3,h4⟩)
  ·have hbg:s.blk b≠ .gone:=by rw[<-hI.eqb,hbr];simp
   rcases hI.own b c hbg hl with ⟨i,h1,h2,h3⟩|h
   ·have hne:i≠b:=fun e=>hbk (by rw[<-e];exact cw (hR.np i h1))
    refine .inr (.inr ⟨i,h1,h2,hws i h1 ?_,h3.resolve_left hne⟩)
    cases hw:wrt (s.blk i)with
    |false=>rfl
    |true=>exact ah (hI.inj i b c (fun e=>by rw[e]at hw;cases hw) hbg ((hI.pas i h1).trans h2) hl) hne
   ·exact .inr (.inl h)
 ·obtain⟨b,e1,e2⟩:=hlocs i c h
  rcases hI.own b c (hng i b e1 hi) e2 with ⟨j,j1,j2,j3⟩|h
  ·refine .inl ⟨j,j1,j2,j3.imp_left ?_⟩
   rintro rfl
   exact so hR.nodup (hR.np j j1) e1
  ·exact .inr h
 ·rw[hloc i i (hR.np i hi)];exact hI.pas i hi
 ·exact(bj.1 (hR.np i hi)).1
 ·obtain⟨a1,a2⟩:=hI.stay i hi hm
  have h1:B.hs0 i≠ .gone->s'.blk i≠ .gone:=fun h e=>a1 h (hR.kept i hi e)
  refine⟨h1,fun h=>?_⟩
  have h0:B.hs0 i≠ .gone:=fun e=>by rw[e]at h;cases h
  exact((hR.blk i i (hR.np i hi)).nongone (h1 h0)).2 (by rw[li];exact a2 h)
theorem ES {σ:Nat->Option Nat}{u:Nat->Blk}{x y:Blk}(h:BK x y True):BK x (nV σ u y) True:=by
 cases x with
 |gone=>rw[show y= .gone from h];exact rfl
 |var cs=>obtain⟨ds,rfl⟩:=(show∃ds,y= .var ds from h);exact⟨_,rfl⟩
 |row t xs f=>
  rcases(show y= .gone\/(True/\∃ys g,y= .row t ys g/\ys.length=xs.length/\(f=true->g=true))from h)with rfl|⟨_,ys,g,rfl,h1,h2⟩
  ·exact .inl rfl
  ·exact .inr ⟨trivial,ys,g,rfl,h1,h2⟩
 |rowA cs=>
  rcases(show y= .gone\/∃ds,y= .rowA ds/\ds.length=cs.length from h)with rfl|⟨ds,rfl,h1⟩
  ·exact .inl rfl
  ·exact .inr ⟨_,rfl,by rw[nT,lE,h1]⟩
 |map t es=>obtain⟨ds,rfl⟩:=(show∃ds,y= .map t ds from h);exact⟨ds,rfl⟩
theorem BK_WB {x y z:Blk}(h:BK x y True)(hw:WB y z)(hg:z= .gone->y= .gone):BK x z True:=by
 rcases hw with e|rfl|⟨cs,es,rfl,rfl,_⟩
 ·rw[hg e]at h;rw[e];exact h
 ·exact h
 ·cases x with
  |gone=>cases (show Blk.var cs= .gone from h)
  |var _=>exact⟨es,rfl⟩
  |row t xs f=>rcases(show Blk.var cs= .gone\/_ from h)with h|⟨_,_,_,h,_⟩<;>cases h
  |rowA _=>rcases(show Blk.var cs= .gone\/_ from h)with h|⟨_,h,_⟩<;>cases h
  |map t _=>obtain⟨_,h⟩:=(show∃ds,Blk.var cs= .map t ds from h);cases h
theorem v7 (hI:Inv B s C)(hO:Old B C)(hR:Renum B s s' keep):Old B (tI C keep s'.blk) where
 keep i hi:=by
  have h1:=hO.keep i hi
  rw[hI.eqb]at h1
  exact BK_WB (ES h1) (hR.blk i i (hR.np i hi)) fun e=>nf.2 (hR.kept i hi e)
 cell c o v hc hv:=hO.cell c o v hc hv
 ok c hc:= .inl (hO.ok c hc)
def WS (x y:AV):Prop:=∀C v,TR C x v->TR C y v
theorem Ev (hG:Good B nt s C a w)(hR:Renum B s s' keep)(hs:∀i,s'.get i= .dead\/WS (ren (oS keep · 0) s.blk (s.get i)) (s'.get i)):Good B nt s' (tI C keep s'.blk) a w where
 w:=hG.w
 inv:=v6 hG.inv hR
 old:=v7 hG.inv hG.old hR
 fr i hi:=by rw[hR.n];exact hi
 ain:=⟨hG.ain.dfr,hG.ain.siz,fun i=>by
  rcases hs i with h|h
  ·rw[h];trivial
  ·exact h _ _ (TR.mv (uG hG.inv hR) (hG.ain.tm i))⟩
end
end Go.Den
namespace Go.Den
open Go.RowKit (Below)
structure PE (a b:AV):Prop where
 width:b.width=a.width
 ws:WS a b
 er:∀C g o,ER C a g o->ER C b g o
theorem PE.refl (a:AV):PE a a:=⟨rfl,fun _ _ h=>h,fun _ _ _ h=>h⟩
theorem PE.vr {a b:AV}(ha:∀t n xs,a≠ .arr t n xs)(hb:∀t n xs,b≠ .arr t n xs)(hw:b.width=a.width)(h:∀C v,VR C a v->VR C b v)(h1:∀cs,a≠ .agg cs)(h2:∀vs,a≠ .tup vs):PE a b:=
 ⟨hw,fun C v g=>TR.of_VR (h C v (xm g h1 h2)),fun C _ _ e=>(ER.of_one hb).2 (let ⟨v,hv,hr⟩:=(ER.of_one ha).1 e;⟨v,hv,h C v hr⟩)⟩
theorem same_VP {c a:AV}(h:same c a=true){C:Cx}{v:Value}(hv:VP C a v):VP C c v:=by
 unfold same at h
 split at h<;>first
  |trivial
  |exact hv
  |(cases h;done)
  |skip
 ·simp only[ar]at h
  obtain⟨h1,h2⟩:=h
  obtain rfl:=j4.1 h1
  obtain rfl:=j4.1 h2
  exact hv
 ·obtain rfl:=j4.1 h;exact hv
 ·obtain rfl:=j4.1 h;exact hv
theorem yU:∀ {cs as:List AV},Cc cs as=true->∀ {C:Cx} {vs:List Value},jw (VP C) as vs->jw (VP C) cs vs
 |[],[],_,_,_,h=>h
 |[],_::_,h,_,_,_=>by simp[Cc]at h
 |_::_,[],h,_,_,_=>by simp[Cc]at h
 |c::cs,a::as,h,C,vs,hv=>by
  simp only[Cc,ar]at h
  match vs,hv with
  |v::vs,hv=>exact⟨same_VP h.1 hv.1,yU h.2 hv.2⟩
theorem ER.first {C:Cx}{a:AV}{g:Nat->Option Value}{o:Nat}(hw:a.width=1)(e:ER C a g o):∃v,g o=some v:=by
 cases a with
 |arr t n xs=>
  have hw:n=1:=hw
  subst hw
  obtain⟨v,_,hv,_⟩:=e 0 (by omega)
  exact⟨v,by simpa using hv⟩
 |_=>obtain⟨v,hv,_⟩:=e;exact⟨v,hv⟩
theorem G7 {c a:AV}(h:same c a=true):PE a c:=by
 unfold same at h
 split at h<;>first
  |exact PE.refl _
  |(cases h;done)
  |skip
 ·have hw:=j4.1 h
  exact⟨hw.symm,fun _ _ _=>trivial,fun C g o e=>let ⟨v,hv⟩:=ER.first hw e;⟨v,hv,trivial⟩⟩
 ·simp only[ar]at h
  obtain⟨h1,h2⟩:=h
  obtain rfl:=j4.1 h1
  obtain rfl:=j4.1 h2
  exact PE.refl _
 ·obtain rfl:=j4.1 h;exact PE.refl _
 ·obtain rfl:=j4.1 h;exact PE.refl _
 ·simp only[ar]at h
  obtain⟨⟨h1,h2⟩,h3⟩:=h
  obtain rfl:=j4.1 h1
  refine PE.vr (by simp) (by simp) rfl (fun C v hv=>?_) (by simp) (by simp)
  obtain⟨f',c',rfl,g1,g2⟩:=hv
  exact⟨f',c',rfl,yU h2 g1,yU h3 g2⟩
theorem ns:∀ {as bs:List AV},jw PE as bs->bs.map AV.width=as.map AV.width
 |[],[],_=>rfl
 |[],_::_,h=>h.elim
 |_::_,[],h=>h.elim
 |_::_,_::_,h=>by simp only[jQ,h.1.width,ns h.2]
theorem xK:∀ {as bs:List AV},jw PE as bs->∀ {i:Nat} {b:AV},bs[i]? =some b->∃a,as[i]? =some a/\PE a b
 |[],[],_,_,_,h=>by simp at h
 |[],_::_,h,_,_,_=>h.elim
 |_::_,[],h,_,_,_=>h.elim
 |a::as,b::bs,h,0,x,hx=>by simp at hx;subst hx;exact⟨a,rfl,h.1⟩
 |a::as,b::bs,h,i+1,x,hx=>by
  obtain⟨y,hy,hp⟩:=xK h.2 (i:=i) (by simpa using hx)
  exact⟨y,by simpa using hy,hp⟩
theorem Cw {as bs:List AV}(h:jw PE as bs){C:Cx}{g:Nat->Option Value}(hc:CR C as g):CR C bs g:=by
 intro i b hb
 obtain⟨a,ha,hp⟩:=xK h hb
 rw[kK (ns h)]
 exact hp.er C g _ (hc i a ha)
theorem PE.agg {as bs:List AV}(h:jw PE as bs):PE (.agg as) (.agg bs):=by
 refine⟨rfl,fun C v hv=>?_,fun C g o e=>?_⟩
 ·obtain⟨l,rfl,h1,h2⟩:=(hv:∃l:Array Value,v= .agg l/\l.size=bw as/\CR C as (fun o=>l[o]?))
  exact⟨l,rfl,by rw[iI (ns h)];exact h1,Cw h h2⟩
 ·obtain⟨v,_,hv⟩:=e;exact hv.elim
theorem PE.dec {t:Tag}{cs:List AV}{x:El t}(h:dec t cs=some x):PE (.agg cs) (.agg (enc t x)):=by
 refine⟨rfl,fun C v hv=>?_,fun C g o e=>?_⟩
 ·obtain⟨l,rfl,h1,h2⟩:=(hv:∃l:Array Value,v= .agg l/\l.size=bw cs/\CR C cs (fun o=>l[o]?))
  refine⟨l,rfl,by rw[h1,gw _ (mH h),gw _ (jm t x),xU h,fj],fun j a ha=>?_⟩
  have hj:j<(enc t x).length:=(bj.1 ha).1
  rw[jU _ (jm t x) j (by omega)]
  obtain⟨v,hv,hr⟩:=sh h h2 (mH h) j a ha
  exact(ER.of_one (kG t x a (cw ha))).2 ⟨v,hv,hr.vr⟩
 ·obtain⟨v,_,hv⟩:=e;exact hv.elim
theorem CH {t:Tag}{n:Nat}{t':Tag}{xs:List (El t')}{ys:List (El t)}(h:ww xs=some ys):AV.arr t' n xs= .arr t n ys/\AV.list t' xs= .list t ys:=by
 obtain⟨rfl,hx⟩:=mG h
 rw[eq_of_heq hx]
 exact⟨rfl,rfl⟩
mutual
theorem VT.pack_ok:∀(t:VT) (a:AV) (x:t.Ty),t.pack a=some x->PE a (t.un x)
 | .bool,a,x,h=>by
  cases a<;>simp only[VT.pack]at h<;>first|(cases h;done)|skip
  obtain rfl:=aw h
  exact PE.refl _
 | .int k,a,x,h=>by
  cases a<;>simp only[VT.pack]at h<;>first|(cases h;done)|skip
  split at h
  ·rename_i hk
   obtain rfl:=gS.1 hk
   obtain rfl:=aw h
   exact PE.refl _
  ·cases h
 | .str,a,x,h=>by
  cases a<;>simp only[VT.pack]at h<;>first|(cases h;done)|skip
  obtain rfl:=aw h
  exact PE.refl _
 | .list t,a,x,h=>by
  cases a<;>simp only[VT.pack]at h<;>first|(cases h;done)|skip
  ·obtain rfl:=aw h
   refine PE.vr (by simp) (by simp[VT.un]) rfl (fun C v hv=>?_) (by simp) (by simp)
   obtain rfl:v= .slice none 0 0:=hv
   exact⟨none,0,rfl,bV _,.inl rfl⟩
  ·rw[(CH (n:=0) h).2];exact PE.refl _
 | .el t,a,x,h=>by
  cases a<;>simp only[VT.pack]at h<;>first|(cases h;done)|skip
  exact PE.dec h
 | .arr t n,a,x,h=>by
  cases a<;>simp only[VT.pack]at h<;>first|(cases h;done)|skip
  split at h
  ·rename_i hn
   obtain rfl:=j4.1 hn
   rw[(CH (n:=n) h).1];exact PE.refl _
  ·cases h
 | .konst c,a,x,h=>by
  simp only[VT.pack]at h
  split at h
  ·rename_i hs;exact G7 hs
  ·cases h
 | .agg l,a,x,h=>by
  cases a<;>simp only[VT.pack]at h<;>first|(cases h;done)|skip
  exact PE.agg (VTL.pack_ok l _ x h)
theorem VTL.pack_ok:∀(l:List VT) (as:List AV) (x:VTL.Ty l),VTL.pack l as=some x->jw PE as (VTL.un l x)
 |[],as,x,h=>by
  cases as with
  |nil=>trivial
  |cons=>simp[VTL.pack]at h
 |t::l,[],x,h=>by cases t<;>simp[VTL.pack]at h
 | .konst c::l,a::as,x,h=>by
  simp only[VTL.pack]at h
  split at h
  ·rename_i hs;exact⟨G7 hs,VTL.pack_ok l as x h⟩
  ·cases h
 | .bool::l,a::as,x,h=>by
  simp only[VTL.pack]at h
  split at h
  ·rename_i p q hp hq
   obtain rfl:=aw h
   exact⟨VT.pack_ok .bool a p hp,VTL.pack_ok l as q hq⟩
  ·cases h
 | .int k::l,a::as,x,h=>by
  simp only[VTL.pack]at h
  split at h
  ·rename_i p q hp hq
   obtain rfl:=aw h
   exact⟨VT.pack_ok (.int k) a p hp,VTL.pack_ok l as q hq⟩
  ·cases h
 | .str::l,a::as,x,h=>by
  simp only[VTL.pack]at h
  split at h
  ·rename_i p q hp hq
   obtain rfl:=aw h
   exact⟨VT.pack_ok .str a p hp,VTL.pack_ok l as q hq⟩
  ·cases h
 | .list t::l,a::as,x,h=>by
  simp only[VTL.pack]at h
  split at h
  ·rename_i p q hp hq
   obtain rfl:=aw h
   exact⟨VT.pack_ok (.list t) a p hp,VTL.pack_ok l as q hq⟩
  ·cases h
 | .el t::l,a::as,x,h=>by
  simp only[VTL.pack]at h
  split at h
  ·rename_i p q hp hq
   obtain rfl:=aw h
   exact⟨VT.pack_ok (.el t) a p hp,VTL.pack_ok l as q hq⟩
  ·cases h
 | .arr t n::l,a::as,x,h=>by
  simp only[VTL.pack]at h
  split at h
  ·rename_i p q hp hq
   obtain rfl:=aw h
   exact⟨VT.pack_ok (.arr t n) a p hp,VTL.pack_ok l as q hq⟩
  ·cases h
 | .agg m::l,a::as,x,h=>by
  simp only[VTL.pack]at h
  split at h
  ·rename_i p q hp hq
   obtain rfl:=aw h
   exact⟨VT.pack_ok (.agg m) a p hp,VTL.pack_ok l as q hq⟩
  ·cases h
end
end Go.Den
namespace Go.Den
open Go.RowKit (Below)
theorem tH (blk:Nat->Blk):∀(f:Nat) (l acc:List Nat),acc.Nodup->(pf blk f l acc).Nodup/\∃r,pf blk f l acc=acc++r
 |0,_,acc,h=>⟨h,[],by simp[pf]⟩
 |_+1,[],acc,h=>⟨h,[],by simp[pf]⟩
 |f+1,b::bs,acc,h=>by
  simp only[pf]
  split
  ·exact tH blk f bs acc h
  ·rename_i hb
   have hn:b∉acc:=fun hm=>by rw[jn.2 hm]at hb;cases hb
   obtain⟨h1,r,h2⟩:=tH blk f (refsB (blk b)++bs) (acc++[b]) (by
    rw[List.nodup_append]
    exact⟨h,by simp,fun x hx y hy=>by simp at hy;subst hy;rintro rfl;exact hn hx⟩)
   exact⟨h1,b::r,by rw[h2];simp⟩
theorem At:∀(n i:Nat),Dq n i=List.range' i n
 |0,_=>rfl
 |n+1,i=>by rw[Dq,At n (i+1),List.range'_succ]
theorem Au (n:Nat):xq n=List.range n:=by rw[xq,At,List.range_eq_range']
theorem rL (s:St)(own:Bool)(vs:List AV):(m9 s own vs).Nodup/\∀i,i<s.np->(m9 s own vs)[i]? =some i:=by
 obtain⟨h1,r,h2⟩:=tH s.blk 60 (G2 s.blk (xq s.np)++kL own vs) (xq s.np) (by rw[Au];exact List.nodup_range)
 refine⟨h1,fun i hi=>?_⟩
 unfold m9
 rw[h2,Au,lB (by simpa using hi)]
 simp[hi]
theorem BT.pack_ok:∀(t:BT) (b:Blk) (x:t.Ty),t.pack b=some x->WB b (t.un x)\/∃c,t= .konst c
 | .var l,b,x,h=>by
  cases b<;>simp only[BT.pack]at h<;>first|(cases h;done)|skip
  have:=VTL.pack_ok l _ x h
  exact .inl (.inr (.inr ⟨_,_,rfl,rfl,ns this,fun C g hc=>Cw this hc⟩))
 | .row t,b,x,h=>by
  cases b with
  |row t' xs f=>
   cases f with
   |false=>
    simp only[BT.pack]at h
    obtain⟨rfl,hx⟩:=mG h
    rw[<-eq_of_heq hx]
    exact .inl (.inr (.inl rfl))
   |true=>simp[BT.pack]at h
  |_=>simp[BT.pack]at h
 | .map t,b,x,h=>by
  cases b with
  |map t' es=>
   simp only[BT.pack]at h
   split at h
   ·rename_i e
    subst e
    obtain rfl:=aw h
    exact .inl (.inr (.inl rfl))
   ·cases h
  |_=>simp[BT.pack]at h
 | .konst c,b,x,_=> .inr ⟨c,rfl⟩
theorem BT.konst_gone {c b:Blk}{x:Unit}(h:BT.pack (.konst c) b=some x):c= .gone:=by
 cases c<;>simp[BT.pack]at h|-
theorem BTL.pack_ok:∀(l:List BT) (bs:List Blk) (x:BTL.Ty l),BTL.pack l bs=some x->jw WB bs (BTL.un l x)/\bs.length=l.length
 |[],bs,x,h=>by
  cases bs with
  |nil=>exact⟨trivial,rfl⟩
  |cons=>simp[BTL.pack]at h
 |t::l,[],x,h=>by cases t<;>simp[BTL.pack]at h
 | .konst c::l,b::bs,x,h=>by
  simp only[BTL.pack]at h
  split at h
  ·rename_i y hy
   obtain⟨h1,h2⟩:=BTL.pack_ok l bs x h
   obtain rfl:=BT.konst_gone hy
   exact⟨⟨.inl rfl,h1⟩,by simp[h2]⟩
  ·cases h
 | .var m::l,b::bs,x,h=>by
  simp only[BTL.pack]at h
  split at h
  ·rename_i p q hp hq
   obtain rfl:=aw h
   obtain⟨h1,h2⟩:=BTL.pack_ok l bs q hq
   rcases BT.pack_ok (.var m) b p hp with h3|⟨c,h3⟩
   ·exact⟨⟨h3,h1⟩,by simp[h2]⟩
   ·cases h3
  ·cases h
 | .row t::l,b::bs,x,h=>by
  simp only[BTL.pack]at h
  split at h
  ·rename_i p q hp hq
   obtain rfl:=aw h
   obtain⟨h1,h2⟩:=BTL.pack_ok l bs q hq
   rcases BT.pack_ok (.row t) b p hp with h3|⟨c,h3⟩
   ·exact⟨⟨h3,h1⟩,by simp[h2]⟩
   ·cases h3
  ·cases h
 | .map t::l,b::bs,x,h=>by
  simp only[BTL.pack]at h
  split at h
  ·rename_i p q hp hq
   obtain rfl:=aw h
   obtain⟨h1,h2⟩:=BTL.pack_ok l bs q hq
   rcases BT.pack_ok (.map t) b p hp with h3|⟨c,h3⟩
   ·exact⟨⟨h3,h1⟩,by simp[h2]⟩
   ·cases h3
  ·cases h
theorem BTL.un_gone:∀(n:Nat) (l:List BT) (bs:List Blk) (x:BTL.Ty l),BTL.pack l bs=some x->GJ n l bs=true->∀i,i<n->(BTL.un l x)[i]? =some .gone->bs[i]? =some .gone
 |0,_,_,_,_,_,i,hi,_=>ah hi (cN _)
 |n+1,[],bs,x,h,hn,_,_,_=>by simp[GJ]at hn
 |n+1,t::l,[],x,h,hn,_,_,_=>by cases t<;>simp[GJ]at hn
 |n+1,.konst c::l,b::bs,x,h,hn,i,hi,hg=>by
  simp only[BTL.pack]at h
  split at h
  ·simp only[GJ,ar]at hn
   cases i with
   |zero=>cases b<;>simp at hn|-
   |succ i=>exact BTL.un_gone n l bs x h hn.2 i (by omega) hg
  ·cases h
 |n+1,.var m::l,b::bs,x,h,hn,i,hi,hg=>by
  simp only[BTL.pack]at h
  split at h
  ·rename_i p q hp hq
   obtain rfl:=aw h
   simp only[GJ]at hn
   cases i with
   |zero=>simp[BTL.un,BT.un]at hg
   |succ i=>exact BTL.un_gone n l bs q hq hn i (by omega) hg
  ·cases h
 |n+1,.row m::l,b::bs,x,h,hn,i,hi,hg=>by
  simp only[BTL.pack]at h
  split at h
  ·rename_i p q hp hq
   obtain rfl:=aw h
   simp only[GJ]at hn
   cases i with
   |zero=>simp[BTL.un,BT.un]at hg
   |succ i=>exact BTL.un_gone n l bs q hq hn i (by omega) hg
  ·cases h
 |n+1,.map m::l,b::bs,x,h,hn,i,hi,hg=>by
  simp only[BTL.pack]at h
  split at h
  ·rename_i p q hp hq
   obtain rfl:=aw h
   simp only[GJ]at hn
   cases i with
   |zero=>simp[BTL.un,BT.un]at hg
   |succ i=>exact BTL.un_gone n l bs q hq hn i (by omega) hg
  ·cases h
theorem xL:∀ {as bs:List Blk},jw WB as bs->∀ {i:Nat} {a:Blk},as[i]? =some a->∃b,bs[i]? =some b/\WB a b
 |[],[],_,_,_,h=>by simp at h
 |[],_::_,h,_,_,_=>h.elim
 |_::_,[],h,_,_,_=>h.elim
 |a::as,b::bs,h,0,x,hx=>by simp at hx;subst hx;exact⟨b,rfl,h.1⟩
 |a::as,b::bs,h,i+1,x,hx=>by
  obtain⟨y,hy,hp⟩:=xL h.2 (i:=i) (by simpa using hx)
  exact⟨y,by simpa using hy,hp⟩
theorem DG:∀(ts:List (Nat×VT)) (vs:List AV) (i:Nat),look (J5 ts vs) i=none\/∃k:Nat,(∃t:VT,ts[k]? =some (i,t))/\∃v:AV,vs[k]? =some v/\look (J5 ts vs) i=some v
 |[],vs,i=> .inl (by simp[J5,look])
 |(j,t)::ts,[],i=> .inl (by simp[J5,look])
 |(j,t)::ts,v::vs,i=>by
  simp only[J5,look_cons]
  by_cases h:j=i
  ·subst h;rw[aa rfl];exact .inr ⟨0,⟨t,rfl⟩,v,rfl,rfl⟩
  ·rw[ae h]
   rcases DG ts vs i with h|⟨k,⟨t',h1⟩,v',h2,h3⟩
   ·exact .inl h
   ·exact .inr ⟨k+1,⟨t',by simpa using h1⟩,v',by simpa using h2,h3⟩
section
variable {B:Bs}{nt:Nat}{s:St}{C:Cx}{a:Act}{w:World}
theorem DV (hG:Good B nt s C a w){D:Desc}{x:D.Ty}(h:D.pack0 s=some x)(s0:St)(hnp:s0.np=s.np)(hal:s0.al=s.al):∃C',Good B nt (D.un s0 x) C' a w:=by
 unfold Desc.pack0 at h
 obtain⟨hkn,hkp⟩:=rL s true (D.ts.map fun t=>s.get t.1)
 generalize m9 s true (D.ts.map fun t=>s.get t.1)=keep at h hkn hkp
 unfold Desc.packK at h
 split at h
 ·rename_i hok
  split at h
  ·rename_i p q hp hq
   obtain rfl:=aw h
   obtain⟨b1,b2⟩:=BTL.pack_ok _ _ _ hq
   have hlen:D.hs.length=keep.length:=by
    have:∀(l:List Nat) (σ:Nat->Option Nat) (u v:Nat->Blk),(gx σ u v l).length=l.length:=fun l σ u v=>by
     induction l with
     |nil=>rfl
     |cons b r ih=>simp[gx,ih]
    rw[<-b2,this]
   have hlen2:(BTL.un D.hs q).length=keep.length:=by rw[<-b1.length,b2,hlen]
   have hblk:∀i,(D.un s0 (p,q)).blk i=((BTL.un D.hs q)[i]?).getD .gone:=fun i=>by
    show(match look (iM 0 (BTL.un D.hs q) []) i with|some v=>v|none=> .gone)=_
    rw[jr]
    by_cases hi:i<(BTL.un D.hs q).length
    ·rw[aa (by omega)];simp[hi]
    ·rw[ae (by omega),fF (by omega)];rfl
   have hnp':=hG.inv.npn
   have hR:Renum B s (D.un s0 (p,q)) keep:=
    {nodup:=hkn
     np:=fun i hi=>hkp i (by omega)
     blk:=fun i b hb=>by
      have:(gx (oS keep · 0) s.blk s.blk keep)[i]? =some (nV (oS keep · 0) s.blk (s.blk b)):=by rw[m5,hb];rfl
      obtain⟨y,h1,h2⟩:=xL b1 this
      rw[hblk,h1];exact h2
     out:=fun i hi=>by rw[hblk,fF (by omega)];rfl
     kept:=fun i hi hg=>by
      have hil:i<(BTL.un D.hs q).length:=by
       have:=(bj.1 (hkp i (by omega))).1;omega
      rw[hblk,co hil]at hg
      have:=BTL.un_gone s.np D.hs _ q hq hok i (by omega) (by rw[co hil];exact congrArg some hg)
      rw[m5,hkp i (by omega)]at this
      exact nf.1 (aw this)
     n:=by show lenN D.hs=_;rw[lenN_eq,hlen]
     nps:=hnp
     als:=hal}
   refine⟨_,Ev hG hR fun i=>?_⟩
   rcases DG D.ts (VTL.un (D.ts.map (·.2)) p) i with h|⟨k,⟨t,h1⟩,v,h2,h3⟩
   ·left
    show(match look (J5 D.ts (VTL.un (D.ts.map (·.2)) p)) i with|some v=>v|none=> .dead)=_
    rw[h]
   ·right
    have hg:(D.un s0 (p,q)).get i=v:=by
     show(match look (J5 D.ts (VTL.un (D.ts.map (·.2)) p)) i with|some v=>v|none=> .dead)=_
     rw[h3]
    rw[hg]
    obtain⟨y,g1,g2⟩:=xK (VTL.pack_ok _ _ p hp) h2
    rw[nT]at g1
    have:y=ren (oS keep · 0) s.blk (s.get i):=by
     simp only[lD,h1,Option.map_some,Option.some.injEq]at g1
     exact g1.symm
    rw[this]at g2
    exact g2.ws
  ·cases h
 ·cases h
end
end Go.Den
namespace Go.Den
open Go.RowKit (Below)
section
variable {B:Bs}{nt:Nat}{s:St}{C:Cx}{a:Act}{w:World}
def vK (C:Cx)(n:Nat)(t:Tag):Cx:=C.push C.w n none (.row t [] false)
theorem pO (hG:Good B nt s C a w):¬C.used s.n:=fun h=>ah (hG.fr _ h) (qH _)
theorem vL (hG:Good B nt s C a w)(t:Tag):Ext C (vK C s.n t):=oW hG.inv (Below.refl _ _) (pO hG)
theorem GI (n:Nat)(t:Tag):VR (vK C n t) (.vec n) (.slice none 0 0):=by
 refine⟨.inr rfl,⟨none,0,0,rfl⟩,?_⟩
 simp[vK,Cx.push]
theorem yG (hG:Good B nt s C a w)(t:Tag){s':St}(hh:s'.h=(s.n,.row t [] false)::s.h)(hn:s'.n=s.n+1)(hnp:s'.np=s.np)(hal:s'.al=s.al)(hg:∀i,TR (vK C s.n t) (s'.get i) (a.tmps.getD i undef)):Good B nt s' (vK C s.n t) a w where
 w:=hG.w
 inv:=by
  refine CZ hG.inv (Below.refl _ _) (pO hG) (.inl rfl) ?_ (fun i=>?_) hnp hal
  ·simp[BR,Cx.push]
  ·simp only[St.blk,hh,look_cons]
   by_cases h:s.n=i
   ·rw[aa h,aa h.symm]
   ·rw[ae h,ae fun e=>h e.symm]
 ain:=⟨hG.ain.dfr,hG.ain.siz,hg⟩
 old:=hG.old.ext hG.inv (vL hG t)
 fr i hi:=by
  rw[hn]
  rcases hi with h|h
  ·have:=hG.fr i h;omega
  ·omega
theorem qS {cs:List AV}{j n:Nat}(h:nth cs j=some .nils):(setN cs j (.vec n)).map AV.width=cs.map AV.width:=by
 rw[setN_eq]
 rw[nth_eq]at h
 apply qy
 intro q
 simp only[lD,oi]
 by_cases hq:j=q
 ·subst hq
  rw[aa rfl,aa (bj.1 h).1,h]
  rfl
 ·rw[ae hq]
theorem Kr {cs:List AV}{j n:Nat}(h:nth cs j=some .nils){C':Cx}(E:Ext C C')(hv:VR C' (.vec n) (.slice none 0 0)){g:Nat->Option Value}(hc:CR C cs g):CR C' (setN cs j (.vec n)) g:=by
 intro i a ha
 rw[kK (qS h)]
 rw[setN_eq,oi]at ha
 rw[nth_eq]at h
 by_cases hq:j=i
 ·subst hq
  rw[aa rfl,aa (bj.1 h).1]at ha
  obtain rfl:=aw ha
  obtain⟨v,h1,h2⟩:=hc j _ h
  obtain rfl:v= .slice none 0 0:=h2
  exact⟨_,h1,hv⟩
 ·rw[ae hq]at ha
  exact(hc i a ha).ext E fun _ _=>rfl
theorem CW (s:St)(i:Nat)(v:AV)(h:List (Nat×Blk))(n:Nat)(k:Nat):({s with t:=(i,v)::s.t,h:=h,n:=n}:St).get k=if i=k then v else s.get k:=by
 simp only[St.get,look_cons]
 by_cases e:i=k
 ·rw[aa e,aa e]
 ·rw[ae e,ae e]
theorem Bc (hG:Good B nt s C a w)(x:Nat×Nat×Tag):∃C',Good B nt (zv s x) C' a w/\(zv s x).np=s.np/\(zv s x).al=s.al:=by
 unfold zv
 split
 ·rename_i i t
  split
  ·rename_i hi
   refine⟨_,yG hG t rfl rfl rfl rfl fun k=>?_,rfl,rfl⟩
   rw[CW]
   by_cases e:i=k
   ·subst e
    rw[aa rfl]
    have:=hG.ain.tm i
    rw[hi]at this
    rw[show a.tmps.getD i undef= .slice none 0 0 from this]
    exact TR.of_VR (GI _ _)
   ·rw[ae e];exact(hG.ain.tm k).ext (vL hG t)
  ·exact⟨C,hG,rfl,rfl⟩
 ·rename_i i j t
  split
  ·rename_i cs hi
   split
   ·rename_i hj
    refine⟨_,yG hG t rfl rfl rfl rfl fun k=>?_,rfl,rfl⟩
    rw[CW]
    by_cases e:i=k
    ·subst e
     rw[aa rfl]
     have:=hG.ain.tm i
     rw[hi]at this
     obtain⟨l,h1,h2,h3⟩:=this
     exact⟨l,h1,by rw[h2,iI (qS hj)],Kr hj (vL hG t) (GI _ _) h3⟩
    ·rw[ae e];exact(hG.ain.tm k).ext (vL hG t)
   ·exact⟨C,hG,rfl,rfl⟩
  ·rename_i b o hi
   split
   ·rename_i cs hb
    split
    ·rename_i hj
     have hG1:Good B nt {s with h:=(s.n,.row t [] false)::s.h,n:=s.n+1} (vK C s.n t) a w:=yG hG t rfl rfl rfl rfl fun k=>(hG.ain.tm k).ext (vL hG t)
     have hbn:b≠s.n:=by
      rintro rfl
      rw[(hG.inv.us _ (pO hG)).1]at hb
      cases hb
     have hb1:({s with h:=(s.n,.row t [] false)::s.h,n:=s.n+1}:St).blk b= .var cs:=by
      simp only[St.blk,look_cons,ae (Ne.symm hbn)]
      exact hb
     obtain⟨c,arr,T',fr,h1,h2,h3,h4,h5⟩:=(show BR (vK C s.n t) b (.var cs)by rw[<-hb1];exact hG1.inv.bl b)
     obtain⟨hI2,hE2⟩:=Bv (s':={s with h:=(b,.var (setN cs j (.vec s.n)))::(s.n,.row t [] false)::s.h,n:=s.n+1}) (nb:= .var (setN cs j (.vec s.n))) hG1.inv h1 (by rw[hb1];rfl) (w':=(vK C s.n t).w) rfl ⟨rfl,rfl,rfl⟩ (fun _ _=>rfl) (fun _ h=>h)
      (by rw[hb1];exact⟨_,rfl⟩) (fun x hx=>by
       rw[hb1]at hx
       refine⟨fun ds hds=>?_,fun ds _=>hx.2 cs rfl⟩
       obtain⟨es,he,hw⟩:=hx.1 ds hds
       cases he
       exact⟨_,rfl,(qS hj).trans hw⟩)
      (fun _ _ _=>rfl) (fun _=> .inr rfl) rfl
      (fun E=>⟨c,arr,T',fr,h1,h2,h3.trans (iI (qS hj)).symm,Kr (C:=vK C s.n t) hj E (VR.ext E (GI _ _)) h4,h5⟩)
      (fun i=>by
       simp only[St.blk,look_cons]
       by_cases e:b=i
       ·rw[aa e,aa (show i=b from e.symm)]
       ·rw[ae e,ae (show ¬i=b from fun h=>e h.symm)]) rfl rfl
     exact⟨(vK C s.n t).upd (vK C s.n t).w b (.var (setN cs j (.vec s.n))),{w:=hG1.w,inv:=hI2,ain:=⟨hG.ain.dfr,hG.ain.siz,fun k=>(hG1.ain.tm k).ext hE2⟩,old:=hG1.old.ext hG1.inv hE2,fr:=hG1.fr},rfl,rfl⟩
    ·exact⟨C,hG,rfl,rfl⟩
   ·exact⟨C,hG,rfl,rfl⟩
  ·exact⟨C,hG,rfl,rfl⟩
theorem qK:∀(l:List (Nat×Nat×Tag)) {s:St} {C:Cx},Good B nt s C a w->∃C',Good B nt (uY l s) C' a w/\(uY l s).np=s.np/\(uY l s).al=s.al
 |[],_,C,h=>⟨C,h,rfl,rfl⟩
 |x::r,_,_,h=>by
  obtain⟨C1,h1,h2,h3⟩:=Bc h x
  obtain⟨C2,k1,k2,k3⟩:=qK r h1
  exact⟨C2,k1,k2.trans h2,k3.trans h3⟩
theorem oF (hG:Good B nt s C a w){D:Desc}{x:D.Ty}(h:D.pack s=some x)(s0:St)(hnp:s0.np=s.np)(hal:s0.al=s.al):∃C',Good B nt (D.un s0 x) C' a w:=by
 obtain⟨C1,h1,h2,h3⟩:=qK D.nl hG
 exact DV h1 h s0 (hnp.trans h2.symm) (hal.trans h3.symm)
end
end Go.Den
namespace Go.Den
open Go.RowKit (Below)
def FM:DX->Exit
 | .norm=> .normal
 | .exit id=> .exit id
 | .ret=> .ret
def pB (nt:Nat):Code->Bool
 | .region _ ops _=>ops.toList.all fun o=>match o.dst with|some i=>Nat.blt i nt|none=>true
 | .seq a b| .cond _ a b=>pB nt a&&pB nt b
 | .block _ c| .loop c=>pB nt c
 |_=>true
def RegD (P:Program)(T:Tr TI)(E:Tr Sem1)(B:Bs)(nt:Nat):Prop:=
 ∀(id:Nat) (ops:Array Oper) (α:Type) (s:St) (k:St->Option α) (ans:α) (C:Cx) (a:Act) (w:World) (Q:Exit->Act->World->Prop),
  yO E T ops.toList true s k=some ans->(∀o∈ops.toList,∀i,o.dst=some i->i<nt)->Good B nt s C a w->
  (∀s' C' a' w',Good B nt s' C' a' w'->k s'=some ans->Q .normal a' w')->(Code.region id ops true).wp P Q a w
section
variable {P:Program}{T:Tr TI}{E:Tr Sem1}{B:Bs}{nt:Nat}{A:Anns}{F:Nat}
theorem zu (hV:Env P T E B)(hD:RegD P T E B nt):∀(c:Code) (lp:Nat) (α:Type) (s:St) (K:DX->St->Option α) (ans:α) (C:Cx) (a:Act) (w:World) (Q:Exit->Act->World->Prop),
  pB nt c=true->den E T A F c lp α s K=some ans->Good B nt s C a w->(∀e s' C' a' w',Good B nt s' C' a' w'->K e s'=some ans->Q (FM e) a' w')->c.wp P Q a w:=by
 intro c
 induction c with
 |skip=>intro lp α s K ans C a w Q _ h hG hK;exact wp_skip (hK .norm s C a w hG h)
 |region id ops draw=>
  intro lp α s0 K ans C0 a w Q hc h hG0 hK
  obtain⟨C,hG,_,_⟩:=qK A.nl hG0
  generalize hs:uY A.nl s0=s at hG
  have h:yO E T ops.toList draw s (fun s'=>K .norm s')=some ans:=by rw[<-hs];exact h
  have hd:∀o∈ops.toList,∀i,o.dst=some i->i<nt:=fun o ho i hi=>by
   simp only[pB,fc]at hc
   have:=hc o ho
   rw[hi]at this
   rwa [gO]at this
  cases draw with
  |true=>exact hD id ops α s _ ans C a w Q h hd hG fun s' C' a' w' g hk=>hK .norm s' C' a' w' g hk
  |false=>
   refine wp_region_list (LWp.list ?_)
   exact mJ hV ops Q 400 [] α ops.toList s _ ans C a w _ h hd hG fun s' C' a' w' g _ hk=>hK .norm s' C' a' w' g hk
 |seq x y ihx ihy=>
  intro lp α s K ans C a w Q hc h hG hK
  simp only[pB,ar]at hc
  refine wp_seq (ihx lp α s _ ans C a w _ hc.1 h hG fun e s' C' a' w' g hk=>?_)
  cases e with
  |norm=>exact ihy lp α s' K ans C' a' w' Q hc.2 hk g hK
  |exit i=>exact hK (.exit i) s' C' a' w' g hk
  |ret=>exact hK .ret s' C' a' w' g hk
 |cond o x y ihx ihy=>
  intro lp α s K ans C a w Q hc h hG hK
  simp only[pB,ar]at hc
  simp only[den]at h
  split at h
  ·rename_i p d ht
   have hcv:=gp hG.ain o
   rw[ht]at hcv
   obtain⟨t,hcv,hpd⟩:=(hcv:∃b,a.eval o= .bool b/\(p=false->b=d))
   refine wp_cond hcv ?_
   cases p with
   |true=>
    simp only[br,cond_true]at h
    unfold eqO at h
    split at h
    ·rename_i e
     cases t with
     |true=>exact ihx lp α s K ans C a w Q hc.1 h hG hK
     |false=>exact ihy lp α s K ans C a w Q hc.2 (by rw[<-e];exact h) hG hK
    ·cases h
   |false=>
    obtain rfl:=hpd rfl
    simp only[br,cond_false]at h
    cases t with
    |true=>exact ihx lp α s K ans C a w Q hc.1 h hG hK
    |false=>exact ihy lp α s K ans C a w Q hc.2 h hG hK
  ·rename_i t ht
   have hcv:=gp hG.ain o
   rw[ht]at hcv
   have hcv:a.eval o= .bool t:=hcv
   refine wp_cond hcv ?_
   split at h
   ·cases t with
    |true=>exact ihx lp α s K ans C a w Q hc.1 h hG hK
    |false=>exact ihy lp α s K ans C a w Q hc.2 h hG hK
   ·rename_i D _
    obtain⟨z,h1,h2⟩:=qq.1 h
    have fin:∀e s' C' a' w',Good B nt s' C' a' w'->(match e with
      | .norm=>match D.pack s' with
       |some x=>some (Sum.inl x)
       |none=>none
      |e=>match K e s' with
       |some y=>some (Sum.inr y)
       |none=>none)=some z->Q (FM e) a' w':=by
     intro e s' C' a' w' g hk
     have other:(match K e s' with|some y=>some (Sum.inr (α:=D.Ty) y)|none=>none)=some z->Q (FM e) a' w':=by
      intro hk
      split at hk
      ·rename_i y hy
       obtain rfl:=aw hk
       exact hK e s' C' a' w' g (by rw[hy];exact h2)
      ·cases hk
     cases e with
     |norm=>
      dsimp only at hk
      split at hk
      ·rename_i x hx
       obtain rfl:=aw hk
       obtain⟨C'',g'⟩:=oF g hx s (hG.inv.npn.trans g.inv.npn.symm) (hG.inv.all.trans g.inv.all.symm)
       exact hK .norm _ C'' a' w' g' h2
      ·cases hk
     |exit i=>exact other hk
     |ret=>exact other hk
    cases t with
    |true=>exact ihx lp _ s _ z C a w Q hc.1 h1 hG fin
    |false=>exact ihy lp _ s _ z C a w Q hc.2 h1 hG fin
  ·cases h
 |block id c ih=>
  intro lp α s K ans C a w Q hc h hG hK
  refine wp_block (ih id α s _ ans C a w _ hc h hG fun e s' C' a' w' g hk=>?_)
  cases e with
  |norm=>exact hK .norm s' C' a' w' g hk
  |ret=>exact hK .ret s' C' a' w' g hk
  |exit i=>
   dsimp only at hk
   show if i=id then Q .normal a' w' else Q (.exit i) a' w'
   split at hk
   ·rename_i e
    rw[aa (j4.1 e)];exact hK .norm s' C' a' w' g hk
   ·rename_i e
    rw[ae (Fj.1 e)];exact hK (.exit i) s' C' a' w' g hk
 |loop c ih=>
  intro lp α s K ans C a w Q hc h hG hK
  simp only[den]at h
  split at h
  ·cases h
  ·rename_i n _
   refine wp_loop_rounds n ?_
   have key:∀n s C a w,Cr (fun s K=>den E T A F c lp α s K) n s K=some ans->Good B nt s C a w->Code.rounds P c Q n a w:=by
    intro n
    induction n with
    |zero=>intro s C a w h _;cases h
    |succ n ihn=>
     intro s C a w h hG
     refine ih lp α s _ ans C a w _ hc h hG fun e s' C' a' w' g hk=>?_
     cases e with
     |norm=>exact ihn s' C' a' w' hk g
     |exit i=>exact hK (.exit i) s' C' a' w' g hk
     |ret=>exact hK .ret s' C' a' w' g hk
   exact key n s C a w h hG
  ·rename_i D _
   split at h
   ·cases h
   ·rename_i x0 hx0
    obtain⟨C0,g0⟩:=oF hG hx0 s rfl rfl
    refine wp_loop_ghost (fun n a' w'=>∃x C',Good B nt (D.un s x) C' a' w'/\iter n (fun rec x=>den E T A F c lp α (D.un s x) fun e s'=>match e with
     | .norm=>match D.pack s' with
      |some y=>rec y
      |none=>none
     |e=>K e s') x=some ans) F ⟨x0,C0,g0,h⟩ ?_
    rintro n a' w' ⟨x,C',g,hx⟩
    cases n with
    |zero=>cases hx
    |succ n=>
     refine ih lp α _ _ ans C' a' w' _ hc hx g fun e s' C'' a'' w'' g' hk=>?_
     cases e with
     |norm=>
      dsimp only at hk
      split at hk
      ·rename_i y hy
       obtain⟨C3,g3⟩:=oF g' hy s (hG.inv.npn.trans g'.inv.npn.symm) (hG.inv.all.trans g'.inv.all.symm)
       exact⟨n,qB n,y,C3,g3,hk⟩
      ·cases hk
     |exit i=>exact hK (.exit i) s' C'' a'' w'' g' hk
     |ret=>exact hK .ret s' C'' a'' w'' g' hk
  ·rename_i D D' _
   split at h
   ·cases h
   ·rename_i x0 hx0
    have packed:∀ {s':St} {C:Cx} {a:Act} {w:World} {z:Sum D.Ty D'.Ty},Good B nt s' C a w->BW D D' s'=some z->s.np=s'.np->s.al=s'.al->∃C',Good B nt (ba z (fun y=>D.un s y) fun y=>D'.un s y) C' a w:=by
     intro s' C a w z g hz h1 h2
     unfold BW at hz
     split at hz
     ·rename_i x hx
      obtain rfl:=aw hz
      exact oF g hx s h1 h2
     ·split at hz
      ·rename_i x hx
       obtain rfl:=aw hz
       exact oF g hx s h1 h2
      ·cases hz
    obtain⟨C0,g0⟩:=packed hG hx0 rfl rfl
    refine wp_loop_ghost (fun n a' w'=>∃x C',Good B nt (ba x (fun y=>D.un s y) fun y=>D'.un s y) C' a' w'/\iter n (fun rec x=>ba x (fun y=>den E T A F c lp α (D.un s y) fun e s'=>match e with
     | .norm=>match BW D D' s' with
      |some z=>rec z
      |none=>none
     |e=>K e s') (fun y=>den E T A F c lp α (D'.un s y) fun e s'=>match e with
     | .norm=>match BW D D' s' with
      |some z=>rec z
      |none=>none
     |e=>K e s')) x=some ans) F ⟨x0,C0,g0,h⟩ ?_
    rintro n a' w' ⟨x,C',g,hx⟩
    cases n with
    |zero=>cases hx
    |succ n=>
     cases x with
     |inl y=>
      refine ih lp α _ _ ans C' a' w' _ hc hx g fun e s' C'' a'' w'' g' hk=>?_
      cases e with
      |norm=>
       dsimp only at hk
       split at hk
       ·rename_i z hz
        obtain⟨C3,g3⟩:=packed g' hz (hG.inv.npn.trans g'.inv.npn.symm) (hG.inv.all.trans g'.inv.all.symm)
        exact⟨n,qB n,z,C3,g3,hk⟩
       ·cases hk
      |exit i=>exact hK (.exit i) s' C'' a'' w'' g' hk
      |ret=>exact hK .ret s' C'' a'' w'' g' hk
     |inr y=>
      refine ih lp α _ _ ans C' a' w' _ hc hx g fun e s' C'' a'' w'' g' hk=>?_
      cases e with
      |norm=>
       dsimp only at hk
       split at hk
       ·rename_i z hz
        obtain⟨C3,g3⟩:=packed g' hz (hG.inv.npn.trans g'.inv.npn.symm) (hG.inv.all.trans g'.inv.all.symm)
        exact⟨n,qB n,z,C3,g3,hk⟩
       ·cases hk
      |exit i=>exact hK (.exit i) s' C'' a'' w'' g' hk
      |ret=>exact hK .ret s' C'' a'' w'' g' hk
 |exit id=>intro lp α s K ans C a w Q _ h hG hK;exact wp_exit (hK (.exit id) s C a w hG h)
 |ret=>intro lp α s K ans C a w Q _ h hG hK;exact wp_ret (hK .ret s C a w hG h)
 |_=>intro lp α s K ans C a w Q _ h _ _;simp[den]at h
end
end Go.Den
namespace Go.Den
open Go.RowKit (Below)
section
variable {P:Program}{T:Tr TI}{E:Tr Sem1}{B:Bs}{nt:Nat}{s:St}{C:Cx}{a:Act}{w:World}
theorem IP {t:TypeId}{av:AV}{v:Value}(hv:TR C av v){asks:List Bool}{e:Eff}(h:yB T s t av= .ret asks e):∃p,v= .pointer (some p):=by
 unfold yB at h
 split at h
 ·cases h
 ·split at h
  ·rename_i b off;obtain⟨c,_,rfl⟩:=(hv:VP C (.ptr b off) v);exact⟨_,rfl⟩
  ·rename_i b off n j;obtain⟨c,_,_,_,rfl⟩:=(hv:VP C (.ptrI b off n j) v);exact⟨_,rfl⟩
  ·rename_i b tg j off;obtain⟨c,_,_,_,rfl,_⟩:=(hv:VP C (.ptrE b tg j off) v);exact⟨_,rfl⟩
  ·rename_i tg xs j off;obtain⟨c,o',_,_,_,rfl⟩:=(hv:VP C (.ptrL tg xs j off) v);exact⟨_,rfl⟩
  ·cases h
def resF (a:Act):ResultVar->Sem Value
 | .tmp t=>pure (a.tmps.getD t undef)
 | .cell x t=>do loadVar t (<-asAddr (a.tmps.getD x undef))
theorem tJ (hT:TOK P T)(hG:Good B nt s C a w):∀(rs:List ResultVar) (l:List AV),HR T s rs=some l->∃vs,(rs.mapM (resF a)).run P w= .ok vs w/\jw (TR C) l vs
 |[],l,h=>by
  obtain rfl:=aw h
  exact⟨[],by simp,trivial⟩
 | .tmp t::r,l,h=>by
  simp only[HR]at h
  split at h
  ·rename_i l' hl
   obtain rfl:=aw h
   obtain⟨vs,h1,h2⟩:=tJ hT hG r l' hl
   exact⟨_::vs,by simp[List.mapM_cons,resF,h1],hG.ain.tm t,h2⟩
  ·cases h
 | .cell x t::r,l,h=>by
  simp only[HR]at h
  split at h
  ·rename_i e l' he hl
   obtain rfl:=aw h
   obtain⟨vs,h1,h2⟩:=tJ hT hG r l' hl
   obtain⟨_,_,_,v,hv,hr⟩:=xd hT hG.inv (hG.ain.tm x) he
   obtain⟨p,hp⟩:=IP (hG.ain.tm x) he
   rw[hG.w,hp]at hv
   have hv':(loadVar t p).run P w= .ok v w:=by simpa[Instr.loadAt,Instr.sureAddr]using hv
   exact⟨v::vs,by simp[List.mapM_cons,resF,hp,asAddr,hv',h1],hr,h2⟩
  ·cases h
theorem oneV_ok {l:List AV}{v:AV}(h:oneV l=some v){vs:List Value}(hv:jw (TR C) l vs):TR C v (if h:vs.toArray.size=1 then vs.toArray[0]else .tuple vs.toArray):=by
 unfold oneV at h
 split at h
 ·rename_i x
  obtain rfl:=aw h
  match vs,hv with
  |[y],hv=>exact hv.1
 ·rename_i hne
  split at h
  ·rename_i hall
   obtain rfl:=aw h
   have hlen:=hv.length
   have:¬(vs.toArray.size=1):=fun e=>by
    rw[List.size_toArray,<-hlen]at e
    obtain⟨x,hx⟩:=sS.1 e
    exact hne x hx
   rw[dif_neg this]
   refine⟨_,rfl,?_⟩
   have go:∀(l:List AV) (vs:List Value),(l.all fun v=>match v with| .tup _=>false|_=>true)=true->jw (TR C) l vs->jw (TR1 C) l vs:=by
    intro l
    induction l with
    |nil=>
     intro vs _ h
     match vs,h with
     |[],_=>trivial
    |cons x r ih=>
     intro vs ha hv
     match vs,hv with
     |y::vs,hv=>
      simp only[List.all_cons,ar]at ha
      refine⟨?_,ih vs ha.2 hv.2⟩
      have h1:=hv.1
      have h2:=ha.1
      cases x<;>first|exact h1|simp at h2
   exact go l vs hall hv
  ·cases h
theorem wa {fn:Func}(hT:TOK P T)(hG:Good B nt s C a w){l:List AV}{v:AV}(h:HR T s fn.results.toList=some l)(hv:oneV l=some v):∃x,(results fn a.tmps).run P w= .ok x w/\TR C v x:=by
 obtain⟨vs,h1,h2⟩:=tJ hT hG _ l h
 refine⟨_,?_,oneV_ok hv h2⟩
 unfold results
 rw[Array.mapM_eq_mapM_toList]
 have:(fn.results.toList.mapM fun x=>match x with
  | .tmp t=>(pure (a.tmps.getD t undef):Sem Value)
  | .cell x t=>do loadVar t (<-asAddr (a.tmps.getD x undef)))=fn.results.toList.mapM (resF a):=by
  congr 1
 simp only[Sem.run_bind,map_eq_pure_bind]
 erw[this]
 simp only[h1,Result.andThen_ok,Sem.run_pure]
end
end Go.Den
namespace Go.Den
open Go.RowKit (Below)
section
variable {P:Program}{T:Tr TI}{E:Tr Sem1}{A:Anns}{F:Nat}
theorem pp {g:FuncId}{fn:Func}{cargs:Array Value}{w:World}{R:Value->World->Prop}(hf:P.funcs[g]? =some fn)(hname:(fn.name== "runtime.NumGoroutine")=false)(hb:fn.body.isNone=false)
  (h:Calls P g cargs w fun e w'=>∃x,e= .returned x/\R x w'):AT P g cargs w R:=by
 intro o a next Q hn
 have:(callFunc g cargs).run P w= .ok (.enter g cargs) w:=by
  unfold callFunc
  rw[Sem.run_bind,run_program,Result.andThen_ok,hf]
  dsimp only
  rw[hname,hb]
  rfl
 rw[this]
 show Calls P g cargs w _
 intro cs
 obtain⟨e,w',fr,⟨x,rfl,hr⟩,h2⟩:=h cs
 exact⟨_,w',fr,hn x w' hr,h2⟩
theorem qI {σ:Nat->Option Nat}{u v:Nat->Blk}:∀(l:List Nat),(gx σ u v l).length=l.length
 |[]=>rfl
 |b::r=>by simp[gx,qI r]
theorem Ip {B:Bs}{nt:Nat}{s:St}{C:Cx}{a:Act}{w:World}(hG:Good B nt s C a w)(own:Bool){v:AV}{x:Value}(hv:TR C v x):
  ∃C',C'.w=w/\Inv B (AH (gx (oS (m9 s own [v]) · 0) s.blk s.blk (m9 s own [v])) B.np B.wr) C'/\Old B C'/\
   (∀i,C'.used i->i<(gx (oS (m9 s own [v]) · 0) s.blk s.blk (m9 s own [v])).length)/\TR C' (ren (oS (m9 s own [v]) · 0) s.blk v) x:=by
 obtain⟨hkn,hkp⟩:=rL s own [v]
 generalize m9 s own [v]=keep at hkn hkp|-
 have hnp:=hG.inv.npn
 have hblk:∀i,(AH (gx (oS keep · 0) s.blk s.blk keep) B.np B.wr).blk i=match keep[i]? with|some b=>nV (oS keep · 0) s.blk (s.blk b)|none=> .gone:=fun i=>by
  rw[jZ,m5]
  cases keep[i]? <;>rfl
 have hR:Renum B s (AH (gx (oS keep · 0) s.blk s.blk keep) B.np B.wr) keep:=
  {nodup:=hkn
   np:=fun i hi=>hkp i (by omega)
   blk:=fun i b hb=>by rw[hblk,hb];exact .inr (.inl rfl)
   out:=fun i hi=>by rw[hblk,fF hi]
   kept:=fun i hi hg=>by rw[hblk,hkp i (by omega)]at hg;exact nf.1 hg
   n:=by show lenN _=_;rw[lenN_eq,qI]
   nps:=hnp.symm
   als:=hG.inv.all.symm}
 refine⟨tI C keep (AH (gx (oS keep · 0) s.blk s.blk keep) B.np B.wr).blk,hG.w,v6 hG.inv hR,v7 hG.inv hG.old hR,fun i hi=>by rw[qI];exact hi,TR.mv (uG hG.inv hR) hv⟩
theorem yI:∀(as:List AV) (n i:Nat),look (Kt n as) i=if n<=i then as[i-n]? else none
 |[],n,i=>by simp[Kt,look]
 |a::r,n,i=>by
  rw[Kt,look_cons,yI r (n+1) i]
  by_cases h:n=i
  ·subst h;simp
  ·rw[ae h]
   by_cases g:n<=i
   ·rw[aa g,aa (by omega),show i-n=(i-(n+1))+1 by omega];simp
   ·rw[ae g,ae (by omega)]
end
end Go.Den
namespace Go.Den
open Go.RowKit (Below)
theorem pz {dn:List Nat}:∀ {l:List Nat},AX dn l=true↔∀a∈l,a∈dn
 |[]=>by simp[AX]
 |a::r=>by simp only[AX,ar,jn,pz (l:=r),List.forall_mem_cons]
theorem xj {dn:List Nat}:∀ {l acc l':List IOp} {x:IOp},sn dn acc l=some (x,l')->
  ∃p q,l=p++x::q/\l'=acc.reverse++(p++q)/\gt x.2.op=true/\∀e∈eU x.2,e∈dn
 |[],_,_,_,h=>by cases h
 |y::r,acc,l',x,h=>by
  simp only[sn]at h
  split at h
  ·rename_i hq
   simp only[ar]at hq
   obtain⟨rfl,rfl⟩:=Prod.mk.inj (aw h)
   exact⟨[],r,rfl,by simp,hq.1,pz.1 hq.2⟩
  ·obtain⟨p,q,h1,h2,h3,h4⟩:=xj h
   exact⟨y::p,q,by rw[h1];rfl,by rw[h2];simp,h3,h4⟩
theorem xi {dn:List Nat}:∀ {l acc:List IOp},sn dn acc l=none->∀x∈l,gt x.2.op=true->¬∀e∈eU x.2,e∈dn
 |[],_,_,x,hx,_=>by simp at hx
 |y::r,acc,h,x,hx,hq=>by
  simp only[sn]at h
  split at h
  ·cases h
  ·rename_i hn
   rcases aN.1 hx with rfl|hx
   ·intro ha
    rw[hq,pz.2 ha]at hn
    cases hn
   ·exact xi h x hx hq
theorem xh {dn:List Nat}:∀ {l acc l':List IOp} {x:IOp},I3 dn acc l=some (x,l')->
  ∃p q,l=p++x::q/\l'=acc.reverse++(p++q)/\gt x.2.op=false/\(∀y∈p,gt y.2.op=true)/\(∀e∈eU x.2,e∈dn)/\∀y∈q,gt y.2.op=true\/¬∀e∈eU y.2,e∈dn
 |[],_,_,_,h=>by cases h
 |y::r,acc,l',x,h=>by
  simp only[I3]at h
  split at h
  ·rename_i hq
   obtain⟨p,q,h1,h2,h3,h4,h5,h6⟩:=xh h
   refine⟨y::p,q,by rw[h1];rfl,by rw[h2];simp,h3,fun z hz=>?_,h5,h6⟩
   rcases aN.1 hz with rfl|hz
   ·exact hq
   ·exact h4 z hz
  ·rename_i hq
   split at h
   ·rename_i hc
    simp only[ar]at hc
    obtain⟨rfl,rfl⟩:=Prod.mk.inj (aw h)
    refine⟨[],r,rfl,by simp,hq,by simp,pz.1 hc.1,fun z hz=>?_⟩
    have:=fc.1 hc.2 z hz
    simp only[cO,ef]at this
    rcases this with h|h
    ·exact .inl h
    ·exact .inr fun ha=>by rw[pz.2 ha]at h;cases h
   ·cases h
end Go.Den
namespace Go.Den
open Go.RowKit (Below)
def SpB (lo hi:Nat)(X Y:Blk):Prop:=X=Y\/((lo=0->hi≠big)/\∃cs ds,X= .var cs/\Y= .var ds/\cs.map AV.width=ds.map AV.width/\∀k,lo<=k->k<hi->cs[k]? =ds[k]?)
theorem SpB.trans {lo hi:Nat}{X Y Z:Blk}(h:SpB lo hi X Y)(k:SpB lo hi Y Z):SpB lo hi X Z:=by
 rcases h with rfl|⟨h1,cs,ds,rfl,rfl,h2,h3⟩
 ·exact k
 ·rcases k with rfl|⟨k1,cs',ds',hc,rfl,k2,k3⟩
  ·exact .inr ⟨h1,cs,ds,rfl,rfl,h2,h3⟩
  ·cases hc
   exact .inr ⟨h1,cs,ds',rfl,rfl,h2.trans k2,fun k hk hk'=>(h3 k hk hk').trans (k3 k hk hk')⟩
theorem SpB.whole {X Y:Blk}(h:SpB 0 big X Y):X=Y:=h.elim id fun h=>ah rfl (h.1 rfl)
def ij (rd:List (Nat×Nat×Nat))(s s':St):Prop:=∀x∈rd,SpB x.2.1 x.2.2 (s.blk x.1) (s'.blk x.1)
theorem ij.refl (rd:List (Nat×Nat×Nat))(s:St):ij rd s s:=fun _ _=> .inl rfl
theorem ij.trans {rd:List (Nat×Nat×Nat)}{s s' s'':St}(h:ij rd s s')(k:ij rd s' s''):ij rd s s'':=fun x hx=>(h x hx).trans (k x hx)
theorem ij.of_blk {rd:List (Nat×Nat×Nat)}{s s':St}(h:s'.blk=s.blk):ij rd s s':=fun x _=> .inl (by rw[h])
theorem ij.wholes {l:List Nat}{s s':St}(h:ij (wholes l) s s'){b:Nat}(hb:b∈l):s'.blk b=s.blk b:=
 (SpB.whole (h (b,0,big) (gR.2 ⟨b,hb,rfl⟩))).symm
def lG (h:List (Nat×Blk))(b:Nat):Blk:=match look h b with|some x=>x|none=> .gone
theorem rE (b:Nat)(w:WU)(u:List (Nat×WU))(h:List (Nat×Blk)):cF ((b,w)::u) h=cF u ((b,w.app (lG h b))::h):=rfl
theorem zp (s:St)(b:Nat):s.blk b=lG s.h b:=rfl
theorem EU {s:St}{rd:List (Nat×Nat×Nat)}{x:Nat×Nat×Nat}(hx:x∈rd):∀(u:List (Nat×WU)) (h:List (Nat×Blk)),xy s rd u=true->SpB x.2.1 x.2.2 (s.blk x.1) (lG h x.1)->SpB x.2.1 x.2.2 (s.blk x.1) (lG (cF u h) x.1)
 |[],_,_,h=>h
 |(b,w)::u,h,hs,hh=>by
  simp only[xy,ar,fc]at hs
  rw[rE]
  refine EU hx u _ hs.2 ?_
  have hl:lG ((b,w.app (lG h b))::h) x.1=if b=x.1 then w.app (lG h b)else lG h x.1:=by
   simp only[lG,look_cons]
   by_cases hb:b=x.1
   ·rw[aa hb,aa hb]
   ·rw[ae hb,ae hb]
  rw[hl]
  by_cases hb:b=x.1
  ·rw[aa hb]
   have h1:=hs.1 x hx
   simp only[KK,cO,ef,<-hb,j4.2 rfl,Bool.true_eq_false,false_or]at h1
   cases w with
   |blk y=>cases h1
   |set k a=>
    simp only[ar,cO,gO,Nat.ble_eq]at h1
    obtain⟨h1,h2,h3⟩:=h1
    split at h3
    ·rename_i cs hcs
     rw[<-hb,hcs]at hh|-
     have key:∃ds,lG h b= .var ds/\cs.map AV.width=ds.map AV.width/\∀k,x.2.1<=k->k<x.2.2->cs[k]? =ds[k]? :=by
      rcases hh with h|⟨_,cs',ds,hc,h4,h5,h6⟩
      ·exact⟨cs,h.symm,rfl,fun _ _ _=>rfl⟩
      ·cases hc;exact⟨ds,h4,h5,h6⟩
     obtain⟨ds,k1,k2,k3⟩:=key
     rw[k1]
     refine .inr ⟨fun h0 hb=>by omega,cs,setN ds k a,rfl,rfl,?_,fun q hq hq'=>?_⟩
     ·rw[setN_eq]
      rw[nth_eq]at h3
      apply qy
      intro q
      have:=congrArg (·[q]?) k2
      simp only[lD]at this|-
      rw[this,oi]
      by_cases hq:k=q
      ·subst hq
       rw[aa rfl]
       cases hc:cs[k]? with
       |none=>
        rw[hc]at this
        cases hd:ds[k]? with
        |none=>rw[px]at hd;rw[ae (by omega)]
        |some d=>rw[hd]at this;cases this
       |some c=>
        rw[hc]at this h3
        cases hd:ds[k]? with
        |none=>rw[hd]at this;cases this
        |some d=>
             rw[hd]at this
             rw[aa (bj.1 hd).1]
             simp only[Option.map_some,Option.some.injEq]at this|-
             rw[<-this]
             exact j4.1 h3
      ·rw[ae hq]
     ·rw[setN_eq,oi,ae (by omega)]
      exact k3 q hq hq'
    ·cases h3
  ·rw[ae hb];exact hh
theorem ij.apply {s:St}{rd:List (Nat×Nat×Nat)}{e:Eff}(d:Option Tmp)(hn:∀x∈rd,x.1<s.n)(hs:xy s rd e.upd=true):ij rd s (s.apply d e):=fun x hx=>by
 have h1:=EU hx e.upd s.h hs (.inl rfl)
 have h2:(s.apply d e).blk x.1=lG (cF e.upd s.h) x.1:=by
  simp only[St.apply,gV]
  simp only[zp,lG,jr]
  rw[ae (by have:=hn x hx;omega)]
 rw[h2];exact h1
theorem wz {cs ds:List AV}(h:cs.map AV.width=ds.map AV.width)(i:Nat):(dropN i cs).map AV.width=(dropN i ds).map AV.width:=by
 rw[dropN_eq,dropN_eq,List.map_drop,List.map_drop,h]
theorem tw:∀ {cs ds:List AV} (o:Nat),cs.map AV.width=ds.map AV.width->HO cs o=HO ds o
 |[],[],_,_=>rfl
 |[],_::_,_,h=>by cases h
 |_::_,[],_,h=>by cases h
 |a::cs,b::ds,0,_=>rfl
 |a::cs,b::ds,o+1,h=>by
  simp only[jQ,List.cons.injEq]at h
  simp only[HO,h.1]
  rw[tw _ h.2]
theorem xA {cs ds r:List AV}{o n i:Nat}(h:cs.map AV.width=ds.map AV.width)(hs:uq cs o n=some (i,r))(hr:∀k,i<=k->k<i+r.length->cs[k]? =ds[k]?):uq ds o n=some (i,r):=by
 unfold uq at hs|-
 rw[<-tw o h]
 split at hs
 ·rename_i j hj
  rw[<-tw n (wz h j)]
  split at hs
  ·rename_i m hm
   obtain⟨rfl,rfl⟩:=Prod.mk.inj (aw hs)
   refine congrArg some (Prod.ext rfl ?_)
   simp only[takeN_eq,dropN_eq]at hr|-
   apply qy
   intro k
   have hl:(ds.drop j).length=(cs.drop j).length:=by have:=congrArg List.length h;simp only[lE]at this;simp[this]
   by_cases hk:k<m
   ·rw[qo hk,qo hk,mW,mW]
    by_cases hk2:k<(cs.drop j).length
    ·exact(hr (j+k) (by omega) (by rw[ge];omega)).symm
    ·simp only[fH]at hk2 hl
     rw[fF (by omega),fF (by omega)]
   ·rw[fF (by rw[ge];omega),fF (by rw[ge];omega)]
  ·cases hs
 ·cases hs
end Go.Den
