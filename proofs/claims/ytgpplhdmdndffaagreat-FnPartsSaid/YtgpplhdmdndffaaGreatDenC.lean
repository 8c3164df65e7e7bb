/- Theory for the proofs of this claim: see its last text. -/
import Derived.Test.YtgpplhdmdndffaaGreatDenB
import Derived.Laws.AppendOwn
import Derived.MapKept
import Derived.Carry
import Derived.ChangeKeysEq
import Derived.Laws.StructEq
set_option linter.unusedSimpArgs false
namespace Go.Den
open Go.RowKit (Below)
section
variable {P:Program}{T:Tr TI}{B:Bs}{s:St}{C:Cx}
theorem pQ {cs:List AV}{i j:Nat}(h:i<=j)(hj:j<=cs.length):lL cs i<=lL cs j:=by
 rw[ji cs i (by omega),ji cs j hj]
 obtain⟨k,rfl⟩:=Nat.exists_eq_add_of_le h
 rw[List.take_add,bO]
 omega
theorem Ag:∀(cs:List AV) (o:Nat),o<bw cs->∃k,k<cs.length/\lL cs k<=o/\o<lL cs (k+1)
 |[],o,h=>ah h (cN _)
 |a::r,o,h=>by
  by_cases e:o<a.width
  ·exact⟨0,by simp,by simp[lL],by simp[lL];omega⟩
  ·simp only[bw]at h
   obtain⟨k,h1,h2,h3⟩:=Ag r (o-a.width) (by omega)
   exact⟨k+1,by simp;omega,by simp only[lL];omega,by simp only[lL]at h3|-;omega⟩
theorem kK:∀ {x y:List AV},x.map AV.width=y.map AV.width->∀k,lL x k=lL y k
 |[],[],_,_=>rfl
 |[],_::_,h,_=>by cases h
 |_::_,[],h,_=>by cases h
 |a::x,b::y,h,0=>rfl
 |a::x,b::y,h,k+1=>by
  obtain⟨h1,h2⟩:=List.cons.inj h
  simp only[lL,h1,kK h2]
theorem HD (hI:Inv B s C){b:Nat}{cs:List AV}(hb:s.blk b= .var cs){i n:Nat}(ha:allowed s b i (i+n)=true)(hn:i+n<=cs.length)(hbn:b<B.np){o:Nat}(ho:¬j7 B b o):o<lL cs i\/lL cs (i+n)<=o:=by
 refine Classical.byContradiction fun hc=>ho ?_
 obtain⟨l,h',hm,h1,h2⟩:=tb hI ha hbn
 obtain⟨cs0,h0⟩:=(hI.wid b hbn).2 cs hb
 obtain⟨ds,hd,hw⟩:=(hI.wid b hbn).1 cs0 h0
 rw[hb]at hd
 obtain rfl:=Blk.var.inj hd
 have hlen:bw cs=lL cs cs.length:=by rw[ji _ _ (bV _),List.take_length]
 have:=pQ (cs:=cs) hn (bV _)
 obtain⟨k,k1,k2,k3⟩:=Ag cs o (by omega)
 refine⟨l,h',hm,.inr ⟨cs0,h0,k,?_,?_,by rw[<-kK hw];exact k2,by rw[<-kK hw];exact k3⟩⟩
 ·refine Classical.byContradiction fun g=>?_
  have:=pQ (cs:=cs) (i:=k+1) (j:=i) (by omega) (by omega)
  omega
 ·refine Classical.byContradiction fun g=>?_
  have:=pQ (cs:=cs) (i:=i+n) (j:=k) (by omega) (by omega)
  omega
theorem HE (hI:Inv B s C){b:Nat}{cs:List AV}(hb:s.blk b= .var cs){i n:Nat}(ha:allowed s b i (i+n)=true)(hn:i+n<=cs.length)(hbn:b<B.np)(hlt:lL cs i<lL cs (i+n)):∃o,j7 B b o:=by
 refine Classical.byContradiction fun hc=>?_
 have:=HD hI hb ha hn hbn (o:=lL cs i) (fun h=>hc ⟨_,h⟩)
 omega
theorem yJ {cs r:List AV}{o n i:Nat}(h:uq cs o n=some (i,r)):lL cs i=o/\lL cs (i+r.length)=o+n:=by
 obtain⟨h1,h2,h3,h4,h5⟩:=jV h
 refine⟨by rw[ji _ _ (by omega)];exact h3,?_⟩
 rw[ji _ _ h2,List.take_add,bO,h3,<-h5,h4]
theorem vH {cs old new:List AV}{i:Nat}(h1:cs=cs.take i++(old++cs.drop (i+old.length)))(hw:old.map AV.width=new.map AV.width):
  (cs.take i++(new++cs.drop (i+old.length))).map AV.width=cs.map AV.width:=by
 conv=>rhs;rw[h1]
 simp only[iy,hw]
theorem Hp (hT:TOK P T)(hI:Inv B s C){nt:Nat}{a:Act}(hA:AInv nt s C a){d:Option Tmp}(hd:∀i,d=some i->i<nt){t:TypeId}{ti:TI}(ht:T.get t=some ti)(mk:List AV->Blk)(hmk:mk= .var\/mk= .rowA)
  {b off:Nat} {cs r:List AV} {i:Nat} {xv:AV} {x:Value} {c:Nat} (hb:s.blk b=mk cs) (hc:C.loc b=some c) (hx:TR C xv x) (hne:xv.cells≠[]) (hlv:IN xv.cells=true) (hsz:bw xv.cells=ti.size)
  (hs:uq cs off ti.size=some (i,r)) (hw:yV r xv.cells=true) (hok:okW s b i (lenN r)=true):
  ∃w' C',(Instr.storeAt t (.pointer (some ⟨c,off,none⟩)) x).run P C.w= .ok () w'/\Post1 B nt s C ⟨.dead,wd b i xv.cells,[]⟩ d (a.put d undef) w' C':=by
 obtain⟨inf,dsc,F⟩:=hT.fact ht
 obtain⟨hx1,hx2⟩:=hx.cells hne
 have hbl:BR C b (.var cs):=by have:=hI.bl b;rcases hmk with rfl|rfl<;>rw[hb]at this<;>exact this
 obtain⟨c',arr,ty,fr,hl,hh,hsa,hcr,hnf⟩:=hbl
 obtain rfl:=tB hc hl
 obtain⟨s1,s2,s3,s4,s5⟩:=jV hs
 have hwr:wrt (s.blk b)=true:=by rw[hb];rcases hmk with rfl|rfl<;>rfl
 have hfit:off+ti.size<=arr.size:=by rw[hsa,s1,bO,bO,s3,s4];omega
 have hrun:=rT F (w:=C.w) (hx1.trans hsz) (fun u hu=>by
  obtain⟨j,hj,rfl⟩:=jN hu
  refine hx2.oneCell hlv j _ (by rw[<-hx1];simpa using hj) ?_
  simp at hj|-) hh hnf hfit
 obtain⟨arr',g1,g2,g3,g4⟩:=jo x.cells.toList off C.w arr hh
 obtain⟨m1,m2,m3,m4⟩:=jt (c:=c) x.cells.toList off C.w
 have hlen:x.cells.toList.length=ti.size:=by simp[hx1,hsz]
 have hrl:xv.cells.length=r.length:=by
  have:=congrArg List.length (qa hw)
  simpa using this.symm
 have hsm:ng cs i xv.cells=cs.take i++(xv.cells++cs.drop (i+r.length)):=by rw[tL _ _ _ (by omega),hrl]
 refine⟨_,_,hrun,sB (nb:=mk (ng cs i xv.cells)) hI hA hd hc hwr m1 ⟨m2,m3,m4⟩ (fun k hk=>k6 hk _ _ _) (fun y hy=>?_) ?_ ?_ (fun hbn o ho=>?_) (fun hbn=>?_) (by rcases hmk with rfl|rfl<;>rfl) (fun E=>?_) (rF mk hmk xv.cells i s.h cs ?_) (fun h=>hne (by cases hq:xv.cells<;>rw[hq]at h<;>first|rfl|cases h))⟩
 ·simp only[World.shape?,hh,g1,g2]at hy|-;exact hy
 ·rw[hb]
  rcases hmk with rfl|rfl
  ·exact⟨_,rfl⟩
  ·refine .inr ⟨_,rfl,?_⟩
   rw[hsm];simp;omega
 ·intro y hy
  rw[hb]at hy
  rcases hmk with rfl|rfl
  ·refine⟨fun cs0 h0=>?_,fun ds _=>hy.2 cs rfl⟩
   obtain⟨ds,e1,e2⟩:=hy.1 cs0 h0
   obtain rfl:=Blk.var.inj e1
   exact⟨_,rfl,by rw[hsm,vH s1 (qa hw)];exact e2⟩
  ·refine⟨fun cs0 h0=>?_,fun ds e=>by cases e⟩
   obtain⟨ds,e1,e2⟩:=hy.1 cs0 h0
   cases e1
 ·refine World.cell?_setCells_out c _ _ _ _ fun _ _=>?_
  rw[hlen]
  rcases hmk with rfl|rfl
  ·simp only[okW,hb,lenN_eq]at hok
   have:=HD hI hb hok s2 hbn ho
   obtain⟨e1,e2⟩:=yJ hs
   rw[e1,e2]at this
   exact this
  ·simp only[okW,hb]at hok
   exact ah (dH hI hok hbn o) ho
 ·rcases hmk with rfl|rfl
  ·simp only[okW,hb,lenN_eq]at hok
   obtain⟨e1,e2⟩:=yJ hs
   by_cases hz:ti.size=0
   ·right
    have:x.cells.toList=[]:=ly (by omega)
    rw[this];rfl
   ·exact .inl (HE hI hb hok s2 hbn (by omega))
  ·simp only[okW,hb]at hok
   exact .inl ⟨0,dH hI hok hbn 0⟩
 ·have hbr:BR (C.upd (C.w.setCells c off x.cells.toList) b (mk (ng cs i xv.cells))) b (.var (ng cs i xv.cells)):=by
   obtain⟨h1,h2⟩:=CR.replace (g':=fun o=>arr'[o]?) (hcr.ext E) hs (hx2.ext E) hsz (fun p p1 p2=>by
    have:=g4 (p-off) (by omega) (by omega)
    rw[show off+(p-off)=p by omega]at this
    rw[this];simp) (fun p hp=>g3 p (by omega))
   rw[takeN_eq,dropN_eq,lenN_eq,<-hsm]at h1 h2
   exact⟨c,arr',ty,fr,hc,g1,by rw[g2,hsa,h2],h1,fun o ho=>hnf o (by omega)⟩
  rcases hmk with rfl|rfl<;>exact hbr
 ·rw[rN (by rw[hb];rcases hmk with rfl|rfl<;>simp),hb]
end
end Go.Den
namespace Go.Den
open Go.RowKit (Below)
section
variable {P:Program}{T:Tr TI}{B:Bs}{s:St}{C:Cx}
theorem Iv {α:Type}(n:Nat)(d:α)(xs:List α)(k:Nat):bk (gj n d xs) (k:Nat) d=bk xs (k:Nat) d:=by
 simp only[bk,gj,bu]
 by_cases h:k<xs.length
 ·simp[ec,oD,h]
 ·simp only[ec,oD,h,if_false]
  rw[fF (by omega:xs.length<=k),sQ]
  split<;>rfl
theorem Iw {α:Type}(xs:List α)(d x:α)(j k:Nat)(hj:j<xs.length):bk (eM xs (j:Nat) x) (k:Nat) d=if k=j then x else bk xs (k:Nat) d:=by
 simp only[bk,eM,bu,ec]
 by_cases h:k=j
 ·subst h;simp[hj]
 ·rw[ae h,mV (fun e=>h e.symm)]
theorem Hn (hT:TOK P T)(hI:Inv B s C){nt:Nat}{a:Act}(hA:AInv nt s C a){d:Option Tmp}(hd:∀i,d=some i->i<nt){t:TypeId}{ti:TI}(ht:T.get t=some ti)
  {b off n:Nat} {cs:List AV} {i:Nat} {j:Int} {xv:AV} {x:Value} {c:Nat} {tg:Tag} {xs:List (El tg)} {y:El tg} (hb:s.blk b= .var cs) (hc:C.loc b=some c) (hx:TR C xv x) (hne:xv.cells≠[]) (hlv:IN xv.cells=true) (hsz:bw xv.cells=ti.size)
  (h0:0<=j) (h1:j<n) (hs:uq cs off n=some (i,[.arr tg n xs])) (hy:dec tg xv.cells=some y) (hok:allowed s b i (i+1)=true):
  ∃w' C',(Instr.storeAt t (.pointer (some ⟨c,off+j.toNat,none⟩)) x).run P C.w= .ok () w'/\Post1 B nt s C ⟨.dead,[(b,.set i (.arr tg n (eM (gj n (aJ tg) xs) j y)))],[]⟩ d (a.put d undef) w' C':=by
 obtain⟨inf,dsc,F⟩:=hT.fact ht
 obtain⟨hx1,hx2⟩:=hx.cells hne
 have hbl:BR C b (.var cs):=by have:=hI.bl b;rwa [hb]at this
 obtain⟨c',arr,ty,fr,hl,hh,hsa,hcr,hnf⟩:=hbl
 obtain rfl:=tB hc hl
 obtain⟨s1,s2,s3,s4,s5⟩:=jV hs
 have hwr:wrt (s.blk b)=true:=by rw[hb];rfl
 obtain⟨k,rfl⟩:∃k:Nat,j=k:=⟨j.toNat,by omega⟩
 have hk:k<n:=by omega
 have hE:=((hcr.sub hs).cons).1
 have hone:∀k,k<n->∃v e,arr[off+k]? =some v/\enc tg (bk xs (k:Nat) (aJ tg))=[e]/\AA e=some v:=fun k hk=>by
  obtain⟨v,e,hv,he,hsc⟩:=hE k hk
  exact⟨v,e,by simpa using hv,he,hsc⟩
 have hesz:esz tg=1:=by
  obtain⟨v,e,_,he,_⟩:=hone k hk
  rw[<-fj tg (bk xs (k:Nat) (aJ tg)),he];rfl
 have hlc:xv.cells.length=1:=by rw[xU hy,hesz]
 have hwc:bw xv.cells=1:=by rw[gw _ (mH hy),hlc]
 have hfit:off+k+ti.size<=arr.size:=by rw[hsa,s1,bO,bO,s3,s4];omega
 have hrun:=rT F (w:=C.w) (c:=c) (o:=off+k) (hx1.trans hsz) (fun u hu=>by
  obtain⟨j,hj,rfl⟩:=jN hu
  refine hx2.oneCell hlv j _ (by rw[<-hx1];simpa using hj) ?_
  simp at hj|-) hh hnf hfit
 obtain⟨arr',g1,g2,g3,g4⟩:=jo x.cells.toList (off+k) C.w arr hh
 obtain⟨m1,m2,m3,m4⟩:=jt (c:=c) x.cells.toList (off+k) C.w
 have hlen:x.cells.toList.length=1:=by simp[hx1,hwc]
 obtain⟨v0,e0,hv0,he0,_⟩:=hone k hk
 have hyv:∃v e,x.cells[0]? =some v/\enc tg y=[e]/\AA e=some v:=by
  have hl:(enc tg y).length=1:=by rw[fj,hesz]
  obtain⟨e,he⟩:=sS.1 hl
  have htg:tg≠ .grp:=by rintro rfl;simp[esz]at hesz
  obtain⟨v,hv,hr⟩:=sh hy hx2 (mH hy) 0 e (by rw[he];rfl)
  exact⟨v,e,hv,he,R0.of_R1 (qM htg y e (by rw[he];simp)) hr⟩
 obtain⟨vy,ey,hvy,hey,hsy⟩:=hyv
 have hnew:∀k',k'<n->∃v e,arr'[off+k']? =some v/\enc tg (bk (eM (gj n (aJ tg) xs) (k:Nat) y) (k':Nat) (aJ tg))=[e]/\AA e=some v:=fun k' hk'=>by
  have hkl:k<(gj n (aJ tg) xs).length:=by simp[gj];omega
  rw[Iw _ _ _ _ _ hkl,Iv]
  by_cases e:k'=k
  ·subst e
   rw[aa rfl]
   refine⟨vy,ey,?_,hey,hsy⟩
   have:=g4 0 (by omega) (by omega)
   simpa[hvy]using this
  ·rw[ae e]
   obtain⟨v,e',h1,h2,h3⟩:=hone k' hk'
   exact⟨v,e',by rw[g3 (off+k') (by omega)];exact h1,h2,h3⟩
 obtain⟨e1,e2⟩:=yJ hs
 have hsm:setN cs i (AV.arr tg n (eM (gj n (aJ tg) xs) (k:Nat) y))=cs.take i++([AV.arr tg n (eM (gj n (aJ tg) xs) (k:Nat) y)]++cs.drop (i+[AV.arr tg n xs].length)):=tL [AV.arr tg n (eM (gj n (aJ tg) xs) (k:Nat) y)] cs i (by simpa using s2)
 have hsub:cs.map AV.width=(setN cs i (.arr tg n (eM (gj n (aJ tg) xs) (k:Nat) y))).map AV.width:=by
  have:=vH (new:=[AV.arr tg n (eM (gj n (aJ tg) xs) (k:Nat) y)]) s1 rfl
  rw[<-hsm]at this
  exact this.symm
 refine⟨_,_,by simpa using hrun,sB (nb:= .var (setN cs i (.arr tg n (eM (gj n (aJ tg) xs) (k:Nat) y)))) hI hA hd hc hwr m1 ⟨m2,m3,m4⟩ (fun k hk=>k6 hk _ _ _) (fun y hy=>?_) ?_ ?_ (fun hbn o ho=>?_) (fun hbn=> .inl ?_) rfl (fun E=>?_)
  (rF .var (.inl rfl) [.arr tg n (eM (gj n (aJ tg) xs) (k:Nat) y)] i s.h cs ?_) (by simp)⟩
 ·simp only[World.shape?,hh,g1,g2]at hy|-;exact hy
 ·rw[hb];exact⟨_,rfl⟩
 ·intro y hy
  rw[hb]at hy
  refine⟨fun cs0 h0=>?_,fun ds _=>hy.2 cs rfl⟩
  obtain⟨ds,e1,e2⟩:=hy.1 cs0 h0
  obtain rfl:=Blk.var.inj e1
  exact⟨_,rfl,by rw[<-hsub];exact e2⟩
 ·refine World.cell?_setCells_out c _ _ _ _ fun _ _=>?_
  rw[hlen]
  have:=HD hI hb hok (by simpa using s2) hbn ho
  simp only[List.length_singleton]at e2
  rw[e1,e2]at this
  show o<off+k\/off+k+1<=o
  omega
 ·simp only[List.length_singleton]at e2
  exact HE hI hb hok (by simpa using s2) hbn (by omega)
 ·obtain⟨h1,h2⟩:=CR.replace (new:=[AV.arr tg n (eM (gj n (aJ tg) xs) (k:Nat) y)]) (g':=fun o=>arr'[o]?) (hcr.ext E) hs (CR.mk (r:=[]) (g:=fun p=>arr'[off+p]?) (fun k' hk'=>by simpa using hnew k' hk') (fun i a h=>by simp at h)) (by simp[bw,AV.width]) (fun p p1 p2=>by
    simp only[show off+(p-off)=p by omega]) (fun p hp=>g3 p (by omega))
  rw[takeN_eq,dropN_eq,lenN_eq,<-hsm]at h1 h2
  exact⟨c,arr',ty,fr,hc,g1,by rw[g2,hsa];exact h2.symm,h1,fun o ho=>hnf o (by omega)⟩
 ·rw[rN (by rw[hb];simp),hb]
theorem Ho (hT:TOK P T)(hI:Inv B s C){nt:Nat}{a:Act}(hA:AInv nt s C a){d:Option Tmp}(hd:∀i,d=some i->i<nt){t:TypeId}{ti:TI}(ht:T.get t=some ti)
  {b off i:Nat} {j:Int} {xv:AV} {x:Value} {c:Nat} {tg:Tag} {xs:List (El tg)} {y:El tg} {r:List AV} (hb:s.blk b= .row tg xs false) (hc:C.loc b=some c) (hx:TR C xv x) (hne:xv.cells≠[]) (hlv:IN xv.cells=true) (hsz:bw xv.cells=ti.size)
  (h0:0<=j) (h1:j<xs.length) (hs:uq (enc tg (bk xs j (aJ tg))) off ti.size=some (i,r))
  (hy:dec tg (takeN i (enc tg (bk xs j (aJ tg)))++(xv.cells++dropN (i+lenN r) (enc tg (bk xs j (aJ tg)))))=some y) (hok:allowed s b 0 big=true):
  ∃w' C',(Instr.storeAt t (.pointer (some ⟨c,j.toNat*esz tg+off,none⟩)) x).run P C.w= .ok () w'/\Post1 B nt s C ⟨.dead,[(b,.blk (.row tg (eM xs j y) false))],[]⟩ d (a.put d undef) w' C':=by
 obtain⟨inf,dsc,F⟩:=hT.fact ht
 obtain⟨hx1,hx2⟩:=hx.cells hne
 have hbl:BR C b (.row tg xs false):=by have:=hI.bl b;rwa [hb]at this
 have hel:=v8 hbl hc (Bo (d:=aJ tg) h0 h1)
 simp only[BR,hc]at hbl
 obtain⟨arr,ty,fr,hh,⟨hra,hrc⟩,hnf⟩:=hbl
 have hne':=hnf trivial
 have hnf:=hne'.1
 obtain⟨s1,s2,s3,s4,s5⟩:=jV hs
 have hwr:wrt (s.blk b)=true:=by rw[hb];rfl
 obtain⟨k,rfl⟩:∃k:Nat,j=k:=⟨j.toNat,by omega⟩
 simp only[bu]
 have hk:k<xs.length:=by omega
 have hwE:bw (enc tg (bk xs (k:Nat) (aJ tg)))=esz tg:=by rw[gw _ (jm _ _),fj]
 have hin:off+ti.size<=esz tg:=by
  have:=congrArg bw s1
  rw[bO,bO,s3,s4]at this
  omega
 have hke:k*esz tg+esz tg<=xs.length*esz tg:=by
  have:(k+1)*esz tg<=xs.length*esz tg:=ed _ hk
  rw[ci]at this;omega
 have hfit:k*esz tg+off+ti.size<=arr.size:=by omega
 have hrun:=rT F (w:=C.w) (c:=c) (o:=k*esz tg+off) (hx1.trans hsz) (fun u hu=>by
  obtain⟨j,hj,rfl⟩:=jN hu
  refine hx2.oneCell hlv j _ (by rw[<-hx1];simpa using hj) ?_
  simp at hj|-) hh hnf hfit
 obtain⟨arr',g1,g2,g3,g4⟩:=jo x.cells.toList (k*esz tg+off) C.w arr hh
 obtain⟨m1,m2,m3,m4⟩:=jt (c:=c) x.cells.toList (k*esz tg+off) C.w
 have hlen:x.cells.toList.length=ti.size:=by simp[hx1,hsz]
 refine⟨_,_,hrun,sB (nb:= .row tg (eM xs (k:Nat) y) false) hI hA hd hc hwr m1 ⟨m2,m3,m4⟩ (fun k hk=>k6 hk _ _ _) (fun y hy=>?_) ?_ ?_ (fun hbn o ho=>ah (dH hI hok hbn o) ho) (fun hbn=> .inl ⟨0,dH hI hok hbn 0⟩) rfl (fun E=>?_) (fun q=>?_) (by simp)⟩
 ·simp only[World.shape?,hh,g1,g2]at hy|-;exact hy
 ·rw[hb];exact .inr ⟨trivial,_,_,rfl,by simp[eM],id⟩
 ·intro z hz
  rw[hb]at hz
  refine⟨fun cs0 h0=>?_,fun ds e=>by cases e⟩
  obtain⟨ds,e1,e2⟩:=hz.1 cs0 h0
  cases e1
 ·have hcl:(C.upd (C.w.setCells c (k*esz tg+off) x.cells.toList) b (.row tg (eM xs (k:Nat) y) false)).loc b=some c:=hc
  simp only[BR,hcl]
  refine⟨arr',ty,fr,g1,⟨by rw[g2];simpa[eM]using hra,fun p z hz q e he=>?_⟩,fun _=>hne'.of g2⟩
  have hq:q<esz tg:=by rw[<-fj tg z];exact(bj.1 he).1
  by_cases ep:p=k
  ·subst ep
   have hzy:z=y:=by
    simp only[eM,bu,sT hk]at hz
    exact(aw hz).symm
   subst hzy
   obtain⟨h1,h2⟩:=CR.replace (g':=fun o=>arr'[p*esz tg+o]?) (hel.ext E) hs (hx2.ext E) hsz (fun q q1 q2=>by
    have:=g4 (q-off) (by omega) (by omega)
    rw[show p*esz tg+off+(q-off)=p*esz tg+q by omega]at this
    rw[this];simp) (fun q hq=>by rw[g3 _ (by omega)];simp[World.cell?,hh])
   have:=sh hy h1 (mH hy) q e he
   exact this
  ·have hz':xs[p]? =some z:=by
    simp only[eM,bu,mV (fun e=>ep e.symm)]at hz
    exact hz
   obtain⟨v,hv,hr⟩:=hrc p z hz' q e he
   refine⟨v,?_,hr.ext E⟩
   rw[g3 _ ?_]
   ·exact hv
   ·rw[hlen]
    rcases Nat.lt_or_gt_of_ne ep with g|g
    ·left
     have:(p+1)*esz tg<=k*esz tg:=ed _ g
     rw[ci]at this;omega
    ·right
     have:(k+1)*esz tg<=p*esz tg:=ed _ g
     rw[ci]at this;omega
 ·simp only[cF,look_cons,WU.app]
  by_cases e:q=b
  ·rw[aa e,aa e.symm]
  ·rw[ae e,ae (fun g=>e g.symm)]
theorem Cn (hT:TOK P T)(hI:Inv B s C){nt:Nat}{a:Act}(hA:AInv nt s C a){d:Option Tmp}(hd:∀i,d=some i->i<nt){t:TypeId}{av xv:AV}{v x:Value}(hv:TR C av v)(hx:TR C xv x){asks:List Bool}{e:Eff}(h:sJ T s t av xv= .ret asks e):
  asks=[]/\e.new=[]/\∃w' C',(Instr.storeAt t v x).run P C.w= .ok () w'/\Post1 B nt s C e d (a.put d undef) w' C':=by
 unfold sJ at h
 split at h
 ·cases h
 ·rename_i ti ht
  split at h
  ·cases h
  ·rename_i hg
   simp only[ar,ef]at hg
   obtain⟨g1,g2,g3⟩:=hg
   have g1:=j4.1 g1
   have g3:=isNil_iff.1 g3
   split at h
   ·rename_i b off
    obtain⟨c,hc,rfl⟩:=(hv:VP C (.ptr b off) v)
    have go:∀(mk:List AV->Blk) cs,(mk= .var\/mk= .rowA)->s.blk b=mk cs->(match uq cs off ti.size with
     |some (i,r)=>match yV r xv.cells,okW s b i (lenN r)with
      |true,true=>OpRes.ret [] ⟨.dead,wd b i xv.cells,[]⟩
      |_,_=> .none
     |none=> .none)= .ret asks e->asks=[]/\e.new=[]/\∃w' C',(Instr.storeAt t (.pointer (some ⟨c,off,none⟩)) x).run P C.w= .ok () w'/\Post1 B nt s C e d (a.put d undef) w' C':=by
     intro mk cs hmk hb h
     split at h
     ·rename_i i r hs
      split at h
      ·rename_i hsw hok
       obtain⟨rfl,rfl⟩:=OpRes.ret.inj h
       exact⟨rfl,rfl,Hp hT hI hA hd ht mk hmk hb hc hx g3 g2 g1 hs hsw hok⟩
      ·cases h
     ·cases h
    split at h
    ·rename_i cs hb;exact go .var cs (.inl rfl) hb h
    ·rename_i cs hb;exact go .rowA cs (.inr rfl) hb h
    ·cases h
   ·rename_i b off n j
    obtain⟨c,hc,h0,h1,rfl⟩:=(hv:VP C (.ptrI b off n j) v)
    split at h
    ·rename_i cs hb
     split at h
     ·rename_i i tg m xs hs
      split at h
      ·rename_i y hm hy hok
       obtain rfl:=j4.1 hm
       obtain⟨rfl,rfl⟩:=OpRes.ret.inj h
       exact⟨rfl,rfl,Hn hT hI hA hd ht hb hc hx g3 g2 g1 h0 h1 hs hy hok⟩
      ·cases h
     ·cases h
    ·cases h
   ·rename_i b tg' j off
    obtain⟨c,hc,_,h0,rfl,hlt⟩:=(hv:VP C (.ptrE b tg' j off) v)
    split at h
    ·rename_i tg xs hb hok
     obtain⟨rfl,hlt2⟩:=hlt tg xs false (by rw[hI.eqb];exact hb)
     split at h
     ·rename_i i r hs
      split at h
      ·split at h
       ·rename_i y hy
        obtain⟨rfl,rfl⟩:=OpRes.ret.inj h
        exact⟨rfl,rfl,Ho hT hI hA hd ht hb hc hx g3 g2 g1 h0 hlt2 hs hy hok⟩
       ·cases h
      ·cases h
     ·cases h
    ·cases h
   ·cases h
end
end Go.Den
namespace Go.Den
open Go.RowKit (Below)
section
variable {P:Program}{T:Tr TI}{B:Bs}{s s':St}{C:Cx}
theorem CY (hI:Inv B s C){b:Nat}{t:Tag}{xs:List (El t)}{f:Bool}(hb:s.blk b= .row t xs f)(hmw:b<B.np->∀o,j7 B b o)
  (hblk:∀i,s'.blk i=if i=b then .gone else s.blk i) (hnp:s'.np=s.np) (hal:s'.al=s.al):Inv B s' (C.upd C.w b .gone)/\Ext C (C.upd C.w b .gone):=by
 have hu:C.used b:=oQ hI (by rw[hb];simp)
 have E:Ext C (C.upd C.w b .gone):=
  {loc:=fun _ _ h=>h
   used:=fun _ h=>h
   keep:=fun i _=>by
    simp only[Cx.upd]
    by_cases e:i=b
    ·subst e;simp only[if_true];rw[hI.eqb,hb];exact .inl rfl
    ·simp only[e,if_false];exact BK.refl _ trivial
   cell:=fun k o v _ hv=>hv
   ok:=fun _ h=>h
   shape:=fun _ _ h=>h}
 have hngi:∀i,s'.blk i≠ .gone->s.blk i≠ .gone/\s'.blk i=s.blk i:=fun i h=>by
  rw[hblk]at h|-
  by_cases e:i=b
  ·rw[aa e]at h;exact ah rfl h
  ·rw[ae e]at h|-;exact⟨h,rfl⟩
 refine⟨?_,E⟩
 refine {eqb:=fun i=>?_,bl:=fun i=>?_,inj:=fun i j k hi hj h1 h2=>hI.inj i j k (hngi i hi).1 (hngi j hj).1 h1 h2,lt:=hI.lt,us:=fun i hu=>?_,okd:=fun k hk=>?_,okS:=fun k hk=>?_,own:=fun i k hi h=>hI.own i k (hngi i hi).1 h,lt0:=hI.lt0,inj0:=hI.inj0,pas:=hI.pas,pus:=hI.pus,frm:=hI.frm,prt:=hI.prt,prt2:=hI.prt2,stay:=fun i hi hm=>?_,shp:=hI.shp,wid:=fun i hi=>?_,npn:=hnp.trans hI.npn,all:=hal.trans hI.all}
 ·rw[hblk,<-hI.eqb];rfl
 ·rw[hblk]
  by_cases e:i=b
  ·rw[aa e];trivial
  ·rw[ae e];exact(hI.bl i).ext E rfl fun _ _=>rfl
 ·have:=hI.us i hu
  rw[hblk]
  refine⟨?_,this.2⟩
  split
  ·rfl
  ·exact this.1
 ·obtain⟨h1,h2⟩:=hI.okd k hk
  refine⟨h1,fun i hi h=>?_⟩
  have:=(hngi i (fun e=>by rw[e]at hi;cases hi)).2
  rw[this]at hi
  exact h2 i hi h
 ·rcases hI.okS k hk with h|h|⟨i,h1,h2,h3,h4⟩
  ·exact .inl h
  ·exact .inr (.inl h)
  ·refine .inr (.inr ⟨i,h1,h2,?_,h4⟩)
   rw[hblk]
   by_cases e:i=b
   ·rw[aa e];rfl
   ·rw[ae e];exact h3
 ·rw[hblk]
  by_cases e:i=b
  ·subst e;exact ah (hmw hi 0) (hm 0)
  ·rw[ae e];exact hI.stay i hi hm
 ·rw[hblk]
  by_cases e:i=b
  ·subst e
   rw[aa rfl]
   refine⟨fun cs h=>?_,fun ds h=>by cases h⟩
   obtain⟨ds,e1,_⟩:=(hI.wid i hi).1 cs h
   rw[hb]at e1;cases e1
  ·rw[ae e];exact hI.wid i hi
theorem Gb (hI:Inv B s C){n c:Nat}(hn:¬C.used n)(hlt:c<C.w.heap.size)(hok:¬C.ok c)(hfree:∀i,s.blk i≠ .gone->C.loc i≠some c)
  (hown:(∃i,i<B.np/\B.loc0 i=some c/\∀o,j7 B i o)\/B.w0.heap.size<=c) {nb:Blk} (hbr:Ext C (C.push C.w n (some c) nb)->BR (C.push C.w n (some c) nb) n nb)
  (hblk:∀i,s'.blk i=if i=n then nb else s.blk i) (hnp:s'.np=s.np) (hal:s'.al=s.al):Inv B s' (C.push C.w n (some c) nb)/\Ext C (C.push C.w n (some c) nb):=by
 have hne:∀i,C.used i->i≠n:=fun i h=>by rintro rfl;exact hn h
 have hloc:∀i,i≠n->(C.push C.w n (some c) nb).loc i=C.loc i:=fun i h=>by simp[Cx.push,h]
 have hlb:(C.push C.w n (some c) nb).loc n=some c:=by simp[Cx.push]
 have E:Ext C (C.push C.w n (some c) nb):=
  {loc:=fun i k h=>by rw[hloc i (hne i (lc hI h))];exact h
   used:=fun i h=> .inl h
   keep:=fun i h=>by
    simp only[Cx.push,hne i h,if_false]
    exact BK.refl _ trivial
   cell:=fun _ _ _ _ h=>h
   ok:=fun _ h=>h
   shape:=fun _ _ h=>h}
 refine⟨?_,E⟩
 refine {eqb:=fun i=>?_,bl:=fun i=>?_,inj:=fun i j k hi hj h1 h2=>?_,lt:=fun i k h=>?_,us:=fun i hu=>?_,okd:=fun k hk=>?_,okS:=fun k hk=>?_,own:=fun i k hi h=>?_,lt0:=hI.lt0,inj0:=hI.inj0,pas:=fun i hi=>?_,pus:=fun i hi=> .inl (hI.pus i hi),frm:=hI.frm,prt:=hI.prt,prt2:=hI.prt2,stay:=fun i hi hm=>?_,shp:=hI.shp,wid:=fun i hi=>?_,npn:=hnp.trans hI.npn,all:=hal.trans hI.all}
 ·rw[hblk,<-hI.eqb];rfl
 ·rw[hblk]
  by_cases e:i=n
  ·rw[aa e,e];exact hbr E
  ·rw[ae e];exact(hI.bl i).ext E (hloc i e) fun _ _=>rfl
 ·rw[hblk]at hi hj
  by_cases e:i=n
  ·by_cases g:j=n
   ·rw[e,g]
   ·rw[e,hlb]at h1;rw[hloc j g]at h2;rw[ae g]at hj
    cases h1;exact ah h2 (hfree j hj)
  ·by_cases g:j=n
   ·rw[g,hlb]at h2;rw[hloc i e]at h1;rw[ae e]at hi
    cases h2;exact ah h1 (hfree i hi)
   ·rw[ae e]at hi;rw[ae g]at hj;rw[hloc i e]at h1;rw[hloc j g]at h2
    exact hI.inj i j k hi hj h1 h2
 ·by_cases e:i=n
  ·rw[e,hlb]at h;cases h;exact hlt
  ·rw[hloc i e]at h;exact hI.lt i k h
 ·have hu':¬C.used i/\i≠n:=⟨fun h=>hu (.inl h),fun h=>hu (.inr h)⟩
  rw[hblk,ae hu'.2,hloc i hu'.2]
  exact hI.us i hu'.1
 ·obtain⟨h1,h2⟩:=hI.okd k hk
  refine⟨h1,fun i hi h=>?_⟩
  rw[hblk]at hi
  by_cases e:i=n
  ·rw[e,hlb]at h;cases h;exact hok hk
  ·rw[ae e]at hi;rw[hloc i e]at h;exact h2 i hi h
 ·rcases hI.okS k hk with h|h|⟨i,h1,h2,h3,h4⟩
  ·exact .inl h
  ·exact .inr (.inl h)
  ·exact .inr (.inr ⟨i,h1,h2,by rw[hblk,ae (hne i (hI.pus i h1))];exact h3,h4⟩)
 ·rw[hblk]at hi
  by_cases e:i=n
  ·rw[e,hlb]at h;cases h
   rcases hown with ⟨j,j1,j2,j3⟩|h
   ·exact .inl ⟨j,j1,j2,.inr j3⟩
   ·exact .inr h
  ·rw[ae e]at hi;rw[hloc i e]at h;exact hI.own i k hi h
 ·rw[hloc i (hne i (hI.pus i hi))];exact hI.pas i hi
 ·rw[hblk,ae (hne i (hI.pus i hi))];exact hI.stay i hi hm
 ·rw[hblk,ae (hne i (hI.pus i hi))];exact hI.wid i hi
def rZ (R:AV->Value->Prop)(tg:Tag)(ys:List (El tg))(news:List Value):Prop:=
 news.length=ys.length*esz tg/\∀i x,ys[i]? =some x->∀j a,(enc tg x)[j]? =some a->∃v,news[i*esz tg+j]? =some v/\R a v
theorem rZ.one {tg:Tag}{ys:List (El tg)}{news:List Value}(h:rZ (R1 C.w C.ok) tg ys news):∀u∈news,u.oneCell'=true:=by
 intro u hu
 obtain⟨k,hk,rfl⟩:=jN hu
 have he:=u3 tg
 have h1:=h.1
 have hq:k/esz tg<ys.length:=ja (by rw[cH,<-h1];exact hk)
 have hj:k%esz tg<(enc tg ys[k/esz tg]).length:=by rw[fj];exact cr _ he
 obtain⟨v,hv,hr⟩:=h.2 (k/esz tg) _ (co hq) (k%esz tg) _ (co hj)
 have e:k/esz tg*esz tg+k%esz tg=k:=jP k (esz tg)
 rw[e,co hk]at hv
 obtain rfl:=aw hv
 refine(R1.vr hr).oneCell ?_
 rintro e
 rcases CM (fG hj)with g|⟨l,g⟩
 ·rw[e]at g;cases g
 ·rw[e]at g;cases g
theorem BI {tg:Tag}{ys:List (El tg)}{c o:Nat}(h:∀i x,ys[i]? =some x->∀j a,(enc tg x)[j]? =some a->∃v,C.w.cell? ⟨c,o+(i*esz tg+j),none⟩=some v/\R1 C.w C.ok a v):
  ∃news,rZ (R1 C.w C.ok) tg ys news/\∀j u,news[j]? =some u->C.w.cell? ⟨c,o+j,none⟩=some u:=by
 have he:=u3 tg
 have hall:∀k,k<ys.length*esz tg->∃v,C.w.cell? ⟨c,o+k,none⟩=some v:=fun k hk=>by
  have hq:k/esz tg<ys.length:=ja (by rw[cH];exact hk)
  have hj:k%esz tg<(enc tg ys[k/esz tg]).length:=by rw[fj];exact cr _ he
  obtain⟨v,hv,_⟩:=h (k/esz tg) _ (co hq) (k%esz tg) _ (co hj)
  rw[jP]at hv
  exact⟨v,hv⟩
 refine⟨(List.range (ys.length*esz tg)).map fun k=>(C.w.cell? ⟨c,o+k,none⟩).getD undef,⟨by simp,fun i x hx j a ha=>?_⟩,fun j u hu=>?_⟩
 ·obtain⟨v,hv,hr⟩:=h i x hx j a ha
  have hi:i<ys.length:=(bj.1 hx).1
  have hj:j<esz tg:=by rw[<-fj tg x];exact(bj.1 ha).1
  have:i*esz tg+j<ys.length*esz tg:=by
   have:=ed (esz tg) hi
   rw[Nat.succ_mul]at this;omega
  exact⟨v,by simp[this,hv],hr⟩
 ·have hj:j<ys.length*esz tg:=by have:=(bj.1 hu).1;simpa using this
  obtain⟨v,hv⟩:=hall j hj
  simp[hj,hv]at hu
  rw[hv,hu]
theorem mG {t t':Tag}{xs:List (El t)}{ys:List (El t')}(h:ww xs=some ys):t=t'/\HEq xs ys:=by
 unfold ww at h
 split at h
 ·rename_i e
  subst e
  exact⟨rfl,heq_of_eq (aw h)⟩
 ·cases h
theorem src_ok (hI:Inv B s C){tx:TypeId}{ti:TI}{i:TypeInfo}{d:TypeDesc}(F:TyF P tx ti i d){tg:Tag}{y:AV}{yv:Value}{ys:List (El tg)}(hy:TR C y yv)(h:xg s tg ti.d y=some ys):
  ∃news,Src P (esz tg) tx yv ys.length news C.w/\rZ (R1 C.w C.ok) tg ys news:=by
 have hdd:=F.desc
 have hu:=F.und
 unfold xg at h
 split at h
 ·rename_i e hd
  rw[hd]at hdd;obtain rfl:=dx hdd
  obtain rfl:=aw h
  obtain rfl:yv= .slice none 0 0:=hy
  exact⟨[],Src.ofNil _ hu _,by simp[rZ]⟩
 ·rename_i e t xs hd
  rw[hd]at hdd;obtain rfl:=dx hdd
  obtain⟨rfl,hx⟩:=mG h
  obtain rfl:=eq_of_heq hx
  obtain⟨a,cap,rfl,hc,hr⟩:=(hy:nN _ _ _ t xs yv)
  rcases hr with rfl|⟨c,o,rfl,hr⟩
  ·cases a with
   |none=>exact⟨[],Src.ofNil _ hu _,by simp[rZ]⟩
   |some a=>exact⟨[],Src.ofSlice _ hu a 0 cap [] (by simp) (by simp) (by simp),by simp[rZ]⟩
  ·obtain⟨news,h1,h2⟩:=BI (C:=C) (c:=c) (o:=o) (ys:=xs) fun i x hx j a ha=>by
    obtain⟨v,hv,hr⟩:=hr.2 i x hx j a ha
    exact⟨v,by rw[<-iz];exact hv,hr⟩
   exact⟨news,Src.ofSlice _ hu _ _ _ _ h1.1 (fun j u hu=>by rw[Addr.add_mid];exact h2 j u hu) h1.one,h1⟩
 ·rename_i e b hd
  rw[hd]at hdd;obtain rfl:=dx hdd
  obtain⟨hub,_,hv⟩:=(hy:VP C (.vec b) yv)
  split at h
  ·rename_i t xs f hb
   obtain⟨rfl,hx⟩:=mG h
   obtain rfl:=eq_of_heq hx
   rw[hI.eqb,hb]at hv
   dsimp only at hv
   have hbl:BR C b (.row t xs f):=by have:=hI.bl b;rwa [hb]at this
   split at hv
   ·rename_i c hc
    obtain⟨cap,T',n',rfl,hcap,_,_⟩:=hv
    obtain⟨news,h1,h2⟩:=BI (C:=C) (c:=c) (o:=0) (ys:=xs) fun i x hx j a ha=>by
     simp only[BR,hc]at hbl
     obtain⟨arr,T',fr,hh,⟨_,hr⟩,_⟩:=hbl
     obtain⟨v,hv,hrr⟩:=hr i x hx j a ha
     exact⟨v,by simp[World.cell?,hh,hv],hrr⟩
    exact⟨news,Src.ofSlice _ hu _ _ _ _ h1.1 (fun j u hu=>by rw[Addr.add_mid];exact h2 j u hu) h1.one,h1⟩
   ·obtain⟨rfl,rfl⟩:=hv
    exact⟨[],Src.ofNil _ hu _,by simp[rZ]⟩
  ·cases h
 ·rename_i a hd
  rw[hd]at hdd;obtain rfl:=ml hdd
  obtain rfl:yv= .string ⟨a.toArray⟩:=hy
  obtain⟨rfl,hx⟩:=mG h
  obtain rfl:=eq_of_heq hx
  have hl:(⟨a.toArray⟩:ByteArray).size=(wB a).length:=by rw[nK];simp[wB]
  refine⟨byteCells ⟨a.toArray⟩,?_,?_,fun i x hx j b hb=>?_⟩
  ·have:=Src.ofString (P:=P) C.w hu ⟨a.toArray⟩
   rw[hl]at this
   exact this
  ·rw[byteCells_length,hl];simp[esz]
  ·have hi:i<a.length:=by have:=(bj.1 hx).1;simpa[wB]using this
   have hx':x=(a[i].toNat:Int):=by
    have:=(bj.1 hx).2
    rw[<-this];simp[wB]
   subst hx'
   cases j with
   |zero=>
    simp[enc]at hb;subst hb
    exact⟨.int .u8 a[i].toNat,by simp[byteCells,esz,hi],.inl rfl⟩
   |succ j=>simp[enc]at hb
 ·cases h
end
end Go.Den
namespace Go.Den
open Go.RowKit (Below)
section
variable {P:Program}{T:Tr TI}{B:Bs}{s:St}{C:Cx}
theorem G3 {R:AV->Value->Prop}{tg:Tag}{xs ys:List (El tg)}{olds news:List Value}(ho:rZ R tg xs olds)(hn:rZ R tg ys news)(zs:Array Value):RowC R tg (eI xs ys) ((olds++news).toArray++zs):=by
 refine⟨?_,fun i x hx j a ha=>?_⟩
 ·simp[eI,ho.1,hn.1,ci]
 ·have hj:j<esz tg:=by rw[<-fj tg x];exact(bj.1 ha).1
  simp only[eI,oD]at hx
  split at hx
  ·rename_i hi
   obtain⟨v,hv,hr⟩:=ho.2 i x hx j a ha
   have:i*esz tg+j<olds.length:=(bj.1 hv).1
   refine⟨v,?_,hr⟩
   rw[qm (by simp;omega)]
   simp[lB this,hv]
  ·rename_i hi
   obtain⟨v,hv,hr⟩:=hn.2 (i-xs.length) x hx j a ha
   have hb:(i-xs.length)*esz tg+j<news.length:=(bj.1 hv).1
   have e:i*esz tg+j=olds.length+((i-xs.length)*esz tg+j):=by
    rw[ho.1,<-iz,<-ci];congr 2;omega
   refine⟨v,?_,hr⟩
   rw[qm (by rw[e];simpa using hb),e]
   simp[mQ,hv]
theorem FT {α β:Type}{xs:List α}{ys:List β}:dO xs ys=true↔xs.length+ys.length<=549755813888:=by
 unfold dO;rw[decide_eq_true_iff];unfold lim;omega
theorem Ir {α:Type}{xs:List α}:fits xs=true↔xs.length<=549755813888:=by
 unfold fits;rw[decide_eq_true_iff];unfold lim;omega
theorem DO {n m cap by':Nat}(h:n+m<=549755813888)(hb:by'<=256)(hg:cap<n+m):Builtin.nextslicecap (n+m) cap*by'<=281474976710656:=by
 refine growslice_fits hg ?_
 calc (n+m)*by'<=549755813888*256:=mB h hb
  _<=140737488355328:=by decide
theorem rQ {nt:Nat}{a':Act}{d:Option Tmp}{b:Nat}{v:AV}{nb:Blk}{w':World}{C1 C':Cx}(E:Ext C C1)(hu:∀i,C1.used i↔C.used i)
  (h:Post1 B nt {s with h:=(b,.gone)::s.h,w:=true} C1 ⟨v,[],[nb]⟩ d a' w' C'):Post1 B nt s C ⟨v,[(b,.blk .gone)],[nb]⟩ d a' w' C' where
 w:=h.w
 inv:=h.inv
 ain:=h.ain
 ext:=E.trans h.ext
 use i:=by rw[h.use,hu]
 quiet h:=by cases h
theorem yo (s:St)(b i:Nat):({s with h:=(b,.gone)::s.h,w:=true}:St).blk i=if i=b then .gone else s.blk i:=by
 simp only[St.blk,look_cons]
 by_cases e:b=i
 ·rw[aa e,aa e.symm]
 ·rw[ae e,ae (fun g=>e g.symm)]
theorem AInv.moved {nt:Nat}{s':St}{C':Cx}{a:Act}(h:AInv nt s C a)(E:Ext C C')(hs:∀i,s'.get i=s.get i):AInv nt s' C' a:=
 ⟨h.dfr,h.siz,fun i=>by rw[hs];exact(h.tm i).ext E⟩
theorem zl (hT:TOK P T)(hI:Inv B s C){nt:Nat}{a:Act}(hA:AInv nt s C a){d:Option Tmp}(hd:∀i,d=some i->i<nt){ts:List TypeId}{x y:AV}{xv yv:Value}(hx:TR C x xv)(hy:TR C y yv)(ty:TypeId){asks:List Bool}{e:Eff}
  (h:xO T s ts x y= .ret asks e) (ha:∀b∈asks,b=true) (hf:∀i,i<lenN e.new->¬C.used (s.n+i)):
  ∃u w' C',(Builtin.append_ ts.toArray ty #[xv,yv]).run P C.w= .ok u w'/\Post1 B nt s C e d (a.put d u) w' C':=by
 unfold xO at h
 split at h
 ·rename_i st xt
  split at h
  ·rename_i ti tx hti htx
   obtain⟨inf,dsc,F⟩:=hT.fact hti
   obtain⟨infx,dscx,Fx⟩:=hT.fact htx
   have hdd:=F.desc
   split at h
   ·rename_i el hd'
    rw[hd']at hdd;obtain rfl:=dx hdd
    split at h
    ·rename_i te hte
     obtain⟨infe,dsce,Fe⟩:=hT.fact hte
     split at h
     ·rename_i tg htg
      obtain⟨hsz,hby,z,hz,hzo⟩:=Fe.tag tg htg
      have hsz':infe.size=esz tg:=Fe.size.trans hsz
      have hby':infe.bytes<=256:=by rw[Fe.bytes];exact hby
      split at h
      ·rename_i ys hys
       obtain⟨news,hsrc,hnews⟩:=src_ok hI Fx hy hys
       rw[<-hsz']at hsrc
       have hz0:∀olds:List Value,rZ (R1 C.w C.ok) tg ([]:List (El tg)) olds->olds=[]:=fun olds h=>by
        have:=h.1;simp at this;exact this
       have hnl:news.length=ys.length*infe.size:=hsrc.newsLen
       have grow:∀(s1:St) (C1:Cx) (base:Option Addr) (xs:List (El tg)) (cap:Nat) (olds:List Value),C1.w=C.w->C1.ok=C.ok->Inv B s1 C1->AInv nt s1 C1 a->¬C1.used s1.n->cap<xs.length+ys.length->xs.length+ys.length<=549755813888->
         rZ (R1 C.w C.ok) tg xs olds->(Builtin.firstCells infe.size xs.length (.slice base xs.length cap)).run P C.w.drew= .ok olds.toArray C.w.drew->
         ∃u w' C',(Builtin.append_ #[st,xt] ty #[.slice base xs.length cap,yv]).run P C.w= .ok u w'/\Post1 B nt s1 C1 ⟨.vec s1.n,[],[.row tg (eI xs ys) false]⟩ d (a.put d u) w' C':=by
        intro s1 C1 base xs cap olds hw1 hok1 hI1 hA1 hn1 hg hl hol hold
        have hrun:=run_append_grow_src C.w st xt ty el infe z F.und Fe.info hz base xs.length cap olds hold yv ys.length news hsrc hg (by omega) (DO hl hby' hg)
        have hge:=grownCap_ge C.w (xs.length+ys.length) cap el
        generalize hgc:grownCap C.w (xs.length+ys.length) cap el=gc at hrun hge
        have hzs:z.cells.size=esz tg:=by
         have:=(lS C _ _ hzo).1
         rw[gw _ (jm _ _),fj]at this
         simpa using this.symm
        have hlen:(eI xs ys).length=xs.length+ys.length:=by simp[eI]
        have hw:Below C1.w.heap.size C1.w (C.w.drew.alloc (.cells ((olds++news).toArray++Builtin.zeroCells z.cells (gc-(xs.length+ys.length))) el)):=by
         rw[hw1];exact(wH C.w).alloc (bV _) _
        obtain⟨C',hP⟩:=sA (tg:=tg) (xs:=eI xs ys) (cap:=gc) (t:=el) (fr:=(0,0)) hI1 hA1 hd hn1 hw (by rw[hw1];exact nv C.w.drew _) (xG _ _) (by rw[hw1,hok1];exact G3 hol hnews _) (by rw[hlen];exact hge) (by
         have e1:(Builtin.zeroCells z.cells (gc-(xs.length+ys.length))).size=(gc-(xs.length+ys.length))*esz tg:=by simp[Builtin.zeroCells,hzs]
         rw[Array.size_append,e1]
         simp only[List.size_toArray,ch,hol.1,hnews.1,<-ci]
         exact Nat.le_of_eq (by congr 1;omega))
        rw[hlen,hw1]at hP
        exact⟨_,_,C',hrun,hP⟩
       have none0:∀(s1:St) (C1:Cx),C1.w=C.w->Inv B s1 C1->AInv nt s1 C1 a->¬C1.used s1.n->ys=[]->
         ∃u w' C',(Builtin.append_ #[st,xt] ty #[.slice none 0 0,yv]).run P C.w= .ok u w'/\Post1 B nt s1 C1 ⟨.vec s1.n,[],[.row tg (eI ([]:List (El tg)) ys) false]⟩ d (a.put d u) w' C':=by
        intro s1 C1 hw1 hI1 hA1 hn1 hn
        subst hn
        have hnil:news=[]:=hz0 news hnews
        subst hnil
        refine⟨.slice none 0 0,C.w,C1.push C1.w s1.n none (.row tg (eI ([]:List (El tg)) []) false),?_,?_⟩
        ·have hc:=hsrc.cells
         simp only[kA]at hc
         rcases hsrc.kind with ⟨e',hk⟩|hk<;>simp[Builtin.append_,run_underlying F.und,run_underlying hk,sizeOf,typeInfo,Fe.info,hsrc.len,hc]
        ·have:=sy (v:= .vec s1.n) (x:= .slice none 0 0) (nb:= .row tg (eI ([]:List (El tg)) []) false) hI1 hA1 hd hn1 (Below.refl _ C1.w) (lo:=none) (.inl rfl) ?_ ?_
         ·rw[hw1]at this|-;exact this
         ·simp[BR,Cx.push,eI]
         ·refine⟨.inr rfl,⟨_,_,_,rfl⟩,?_⟩
          simp[Cx.push,eI]
       split at h
       ·
        obtain⟨rfl,rfl⟩:=OpRes.ret.inj h
        obtain rfl:xv= .slice none 0 0:=hx
        have hfit:ys.length<=549755813888:=Ir.1 (ha _ (bq ..))
        have hf0:¬C.used s.n:=by have:=hf 0 (by simp[lenN]);simpa using this
        by_cases hn:ys=[]
        ·subst hn
         exact none0 s C rfl hI hA hf0 rfl
        ·have hpos:0<ys.length:=List.length_pos_iff.2 hn
         obtain⟨u,w',C',h1,h2⟩:=grow s C none [] 0 [] rfl rfl hI hA hf0 (by simpa using hpos) (by simpa using hfit) (by simp[rZ]) (run_firstCells_none ..)
         exact⟨u,w',C',h1,h2⟩
       ·
        rename_i b
        split at h
        ·rename_i t0 xs0 hb0
         split at h
         ·rename_i xs hcast hg
          obtain⟨rfl,hxx⟩:=mG hcast
          obtain rfl:=eq_of_heq hxx
          clear hxx hcast
          simp only[ar]at hg
          obtain⟨_,hok⟩:=hg
          obtain⟨rfl,rfl⟩:=OpRes.ret.inj h
          have hfit:xs0.length+ys.length<=549755813888:=FT.1 (ha _ (bq ..))
          have hf0:¬C.used s.n:=by have:=hf 0 (by simp[lenN]);simpa using this
          obtain⟨hub,_,hv⟩:=(hx:VP C (.vec b) xv)
          rw[hI.eqb,hb0]at hv
          dsimp only at hv
          obtain⟨hI1,hE1⟩:=CY (s':={s with h:=(b,.gone)::s.h,w:=true}) hI hb0 (dH hI hok) (yo s b) rfl rfl
          have hA1:AInv nt {s with h:=(b,.gone)::s.h,w:=true} (C.upd C.w b .gone) a:=hA.moved hE1 fun _=>rfl
          have hbl:BR C b (.row t0 xs0 false):=by have:=hI.bl b;rwa [hb0]at this
          split at hv
          ·rename_i c hc
           obtain⟨cap,T',n',rfl,hcap,hshp,hcn⟩:=hv
           simp only[BR,hc]at hbl
           obtain⟨arr,T'',fr,hh,⟨hra,hrc⟩,hnf⟩:=hbl
           have hne':=hnf trivial
           have hnf:=hne'.1
           obtain⟨rfl,rfl⟩:T''=T'/\arr.size=n':=by
            simp only[World.shape?,hh,Option.some.injEq,Prod.mk.injEq]at hshp;exact hshp
           by_cases hroom:xs0.length+ys.length<=cap
           ·
            have he:=u3 t0
            have hin:(xs0.length+ys.length)*esz t0<=arr.size:=dN (ed _ hroom) hcn
            rw[ci]at hin
            have hnl':=hnews.1
            have hrun:=run_append_room_src C.w st xt ty el infe F.und Fe.info c 0 xs0.length cap yv ys.length news hsrc hroom (fun j hj=>by
             rw[hsz'];simp[World.cell?,hh];omega) (fun j hj=>by
             have:=hnf (0+xs0.length*infe.size+j) (by rw[hsz'];omega)
             simp[World.frozen?,hh];omega)
            rw[hsz',eP]at hrun
            obtain⟨arr',g1,g2,g3,g4⟩:=jo news (xs0.length*esz t0) C.w arr hh
            obtain⟨m1,m2,m3,m4⟩:=jt (c:=c) news (xs0.length*esz t0) C.w
            have hkept:∀i x,xs0[i]? =some x->∀j,j<esz t0->arr'[i*esz t0+j]? =arr[i*esz t0+j]? :=fun i x hx j hj=>by
             refine g3 _ (.inl ?_)
             have hi:i<xs0.length:=(bj.1 hx).1
             have:=ed (esz t0) hi
             rw[Nat.succ_mul]at this;omega
            have hjl:∀ {x:El t0} {j:Nat} {a:AV},(enc t0 x)[j]? =some a->j<esz t0:=fun {x j a} h=>by rw[<-fj t0 x];exact(bj.1 h).1
            obtain⟨hI2,hE2⟩:=Bv (s':=s) (nb:= .row t0 xs0 false) (w':=C.w.setCells c (xs0.length*esz t0) news) hI hc (by rw[hb0];rfl) m1 ⟨m2,m3,m4⟩ (fun k hk=>k6 hk _ _ _)
             (fun x hx=>by simp only[World.shape?,hh,g1,g2]at hx|-;exact hx) (by rw[hb0];exact BK.refl _ trivial) (fun x hx=>by rwa [hb0]at hx) (fun hbn o ho=>ah (dH hI hok hbn o) ho) (fun hbn=> .inl ⟨0,dH hI hok hbn 0⟩) rfl
             (fun E=>by
              have hcl:(C.upd (C.w.setCells c (xs0.length*esz t0) news) b (.row t0 xs0 false)).loc b=some c:=hc
              simp only[BR,hcl]
              refine⟨arr',T'',fr,g1,⟨by rw[g2];exact hra,fun i x hx j a ha=>?_⟩,fun _=>hne'.of g2⟩
              obtain⟨v,hv,hr⟩:=hrc i x hx j a ha
              exact⟨v,by rw[hkept i x hx j (hjl ha)];exact hv,hr.ext E⟩)
             (fun i=>by by_cases e:i=b
                        ·rw[aa e,e,hb0]
                        ·rw[ae e]) rfl rfl
            obtain⟨hI3,hE3⟩:=CY (s':={s with h:=(b,.gone)::s.h,w:=true}) hI2 hb0 (dH hI hok) (yo s b) rfl rfl
            have hng:s.blk b≠ .gone:=by rw[hb0];simp
            obtain⟨hI4,hE4⟩:=Gb (n:=s.n) (c:=c) (nb:= .row t0 (eI xs0 ys) false) (s':={s with h:=(s.n,.row t0 (eI xs0 ys) false)::(b,.gone)::s.h,n:=s.n+1,w:=true}) hI3 hf0 (by
              show c<(C.w.setCells c (xs0.length*esz t0) news).heap.size
              rw[m1];exact hI.lt b c hc) (fun h=>(hI.okd c h).2 b (by rw[hb0];rfl) hc) (fun i hi hl=>by
              rw[yo]at hi
              by_cases e:i=b
              ·rw[aa e]at hi;exact hi rfl
              ·rw[ae e]at hi;exact e (hI.inj i b c hi hng hl hc)) (by
              rcases hI.own b c hng hc with ⟨i,i1,i2,i3⟩|h
              ·refine .inl ⟨i,i1,i2,?_⟩
               rcases i3 with rfl|i3
               ·exact dH hI hok i1
               ·exact i3
              ·exact .inr h) (fun E=>by
              simp only[BR,Cx.push,if_true]
              refine⟨arr',T'',fr,g1,⟨by rw[g2];simp only[eI,ch,ci];exact hin,fun i x hx j a ha=>?_⟩,fun _=>hne'.of g2⟩
              simp only[eI,oD]at hx
              split at hx
              ·obtain⟨v,hv,hr⟩:=hrc i x hx j a ha
               exact⟨v,by rw[hkept i x hx j (hjl ha)];exact hv,((hr.ext hE2).ext hE3).ext E⟩
              ·rename_i hi
               obtain⟨v,hv,hr⟩:=hnews.2 (i-xs0.length) x hx j a ha
               have hb:(i-xs0.length)*esz t0+j<news.length:=(bj.1 hv).1
               have e:i*esz t0+j=xs0.length*esz t0+((i-xs0.length)*esz t0+j):=by
                rw[<-iz,<-ci];congr 2;omega
               exact⟨v,by rw[e,g4 _ (by omega) hb];exact hv,((hr.ext hE2).ext hE3).ext E⟩) (fun i=>by
              simp only[St.blk]
              rw[look_cons]
              by_cases e:s.n=i
              ·rw[aa e,aa e.symm]
              ·rw[ae e,ae (fun g=>e g.symm)]) rfl rfl
            have hEE:=(hE2.trans hE3).trans hE4
            refine⟨_,_,_,hrun,⟨rfl,hI4.same (by simp only[St.apply,gV];rfl) (by simp only[St.apply,ry]) (by simp only[St.apply,rv]),?_,hEE,fun i=>?_,fun h=>by cases h⟩⟩
            ·refine hA.put hEE (s':={s with h:=(s.n,.row t0 (eI xs0 ys) false)::(b,.gone)::s.h,n:=s.n+1,w:=true}) (fun _=>rfl) hd ?_
             refine⟨.inr rfl,⟨_,_,_,rfl⟩,?_⟩
             simp only[Cx.push,if_true]
             refine⟨cap,T'',arr.size,by simp[eI],by simp only[eI,ch];exact hroom,?_,hcn⟩
             show(C.w.setCells c (xs0.length*esz t0) news).shape? c=_
             simp only[World.shape?,g1,g2]
            ·simp only[Cx.push,Cx.upd,lenN]
             constructor
             ·rintro(h|rfl)
              ·exact .inl h
              ·exact .inr ⟨bV _,by omega⟩
             ·rintro(h|h)
              ·exact .inl h
              ·exact .inr (by omega)
           ·obtain⟨olds,ho1,ho2⟩:=BI (C:=C) (c:=c) (o:=0) (ys:=xs0) fun i x hx j a ha=>by
             obtain⟨v,hv,hrr⟩:=hrc i x hx j a ha
             exact⟨v,by simp[World.cell?,hh,hv],hrr⟩
            obtain⟨u,w',C',h1,h2⟩:=grow {s with h:=(b,.gone)::s.h,w:=true} (C.upd C.w b .gone) (some ⟨c,0,none⟩) xs0 cap olds rfl rfl hI1 hA1 hf0 (by omega) hfit ho1
             (run_firstCells_some C.w.drew _ _ _ _ _ _ (by rw[hsz'];exact ho1.1) fun j v hv=>by rw[Addr.add_mid];exact ho2 j v hv)
            exact⟨u,w',C',h1,rQ hE1 (fun _=>Iff.rfl) h2⟩
          ·obtain⟨rfl,rfl⟩:=hv
           by_cases hn:ys=[]
           ·obtain⟨u,w',C',h1,h2⟩:=none0 {s with h:=(b,.gone)::s.h,w:=true} (C.upd C.w b .gone) rfl hI1 hA1 hf0 hn
            exact⟨u,w',C',h1,rQ hE1 (fun _=>Iff.rfl) h2⟩
           ·have hpos:0<ys.length:=List.length_pos_iff.2 hn
            obtain⟨u,w',C',h1,h2⟩:=grow {s with h:=(b,.gone)::s.h,w:=true} (C.upd C.w b .gone) none [] 0 [] rfl rfl hI1 hA1 hf0 (by simpa using hpos) (by simpa using hfit) (by simp[rZ]) (run_firstCells_none ..)
            exact⟨u,w',C',h1,rQ hE1 (fun _=>Iff.rfl) h2⟩
         ·cases h
        ·cases h
       ·cases h
      ·cases h
     ·cases h
    ·cases h
   ·cases h
  ·cases h
 ·cases h
end
end Go.Den
namespace Go.Den
open Go.RowKit (Below run_makeMap)
open Go.MapKept (run_checkKey run_findKey heap_set)
section
variable {P:Program}{T:Tr TI}{B:Bs}{s:St}{C:Cx}
abbrev MR (t:Tag)(e:Int×El t)(m:MapEntry):Prop:=m.key= .int .i64 e.1/\∃a,enc t e.2=[a]/\AA a=some m.val
theorem yg {t:Tag}(k:Int):∀(es:List (Int×El t)) (ms:List MapEntry) (i:Nat),jw (MR t) es ms->
  (yE es k=true/\∃j m,Instr.findNow (.int .i64) (.int .i64 k) ms i=some (some (i+j,m.val))/\ms[j]? =some m/\m.key= .int .i64 k/\(∀d,∃a,enc t (BG es k d)=[a]/\AA a=some m.val)/\
   ∀y ay vy,enc t y=[ay]->AA ay=some vy->jw (MR t) (wA es k y) (ms.modify j fun e=>{e with key:= .int .i64 k,val:=vy}))\/
  (yE es k=false/\Instr.findNow (.int .i64) (.int .i64 k) ms i=some none/\(∀d,BG es k d=d)/\∀y ay vy n,enc t y=[ay]->AA ay=some vy->jw (MR t) (wA es k y) (ms++[{key:= .int .i64 k,val:=vy,born:=n}]))
 |[],[],i,_=> .inr ⟨rfl,rfl,fun _=>rfl,fun y ay vy n h1 h2=>⟨⟨rfl,ay,h1,h2⟩,trivial⟩⟩
 |[],_::_,_,h=>h.elim
 |_::_,[],_,h=>h.elim
 |e::es,m::ms,i,h=>by
  obtain⟨⟨h1,a,h2,h3⟩,h4⟩:=h
  by_cases e1:e.1=k
  ·refine .inl ⟨by simp[yE,e1],0,m,?_,rfl,by rw[h1,e1],fun d=>⟨a,by simp[BG,e1,h2],h3⟩,fun y ay vy g1 g2=>?_⟩
   ·simp[Instr.findNow,Instr.sameNow,h1,e1]
   ·simp only[wA,e1,if_true,List.modify_zero_cons]
    exact⟨⟨rfl,ay,g1,g2⟩,h4⟩
  ·have hn:Instr.findNow (.int .i64) (.int .i64 k) (m::ms) i=Instr.findNow (.int .i64) (.int .i64 k) ms (i+1):=by
    have:(k==e.1)=false:=by simpa using fun g=>e1 g.symm
    simp[Instr.findNow,Instr.sameNow,h1,this]
   rcases yg k es ms (i+1) h4 with ⟨g1,j,m',g2,g3,g4,g5,g6⟩|⟨g1,g2,g3,g4⟩
   ·refine .inl ⟨by simp[yE,e1,g1],j+1,m',by rw[hn,g2];congr 3;omega,by simpa using g3,g4,fun d=>by simpa[BG,e1]using g5 d,fun y ay vy f1 f2=>?_⟩
    simp only[wA,e1,if_false,List.modify_succ_cons]
    exact⟨⟨h1,a,h2,h3⟩,g6 y ay vy f1 f2⟩
   ·refine .inr ⟨by simp[yE,e1,g1],by rw[hn,g2],fun d=>by simpa[BG,e1]using g3 d,fun y ay vy n f1 f2=>?_⟩
    simp only[wA,e1,if_false]
    exact⟨⟨h1,a,h2,h3⟩,g4 y ay vy n f1 f2⟩
theorem Gd {d:TD}(h:isI64 d=true):d= .int .i64:=by
 unfold isI64 at h;split at h
 ·rfl
 ·cases h
theorem Ab (hT:TOK P T){t:TypeId}{tg:Tag}(h:rt T t=some tg):∃k e,P.underlying t=some (.map k e)/\P.underlying k=some (.int .i64)/\esz tg=1/\∃i z,P.info? e=some i/\i.zero=some z/\nM (enc tg (aJ tg)) z.cells.toList=true/\z.cells= #[z]:=by
 unfold rt at h
 split at h
 ·rename_i ti ht
  obtain⟨i,d,F⟩:=hT.fact ht
  have hdd:=F.desc
  split at h
  ·rename_i k e hd'
   rw[hd']at hdd;obtain rfl:=Ic hdd
   split at h
   ·rename_i tk te htk hte
    obtain⟨ik,dk,Fk⟩:=hT.fact htk
    obtain⟨ie,de,Fe⟩:=hT.fact hte
    split at h
    ·rename_i tg' hi htg
     split at h
     ·rename_i hz
      obtain rfl:=aw h
      simp only[ar,ef]at hi
      obtain⟨hi,hna⟩:=hi
      have hk:=Fk.desc
      rw[Gd hi]at hk
      obtain rfl:=xV hk
      obtain⟨_,_,z,hz1,hz2⟩:=Fe.tag _ htg
      exact⟨k,e,F.und,Fk.und,j4.1 hz,ie,z,Fe.info,hz1,hz2,Fe.zagg z hz1 hna⟩
     ·cases h
    ·cases h
   ·cases h
  ·cases h
 ·cases h
theorem yD (hI:Inv B s C){nt:Nat}{a:Act}(hA:AInv nt s C a){d:Option Tmp}(hd:∀i,d=some i->i<nt){t:TypeId}{asks:List Bool}{e:Eff}(h:uA T s t= .ret asks e)(hf:∀i,i<lenN e.new->¬C.used (s.n+i)):
  ∃u w' C',(Instr.makeMap t none).run P C.w= .ok u w'/\Post1 B nt s C e d (a.put d u) w' C':=by
 unfold uA at h
 split at h
 ·rename_i tg _
  obtain⟨rfl,rfl⟩:=OpRes.ret.inj h
  have hf0:¬C.used s.n:=by have:=hf 0 (by simp[lenN]);simpa using this
  have hw:=kW C.w (.map #[] 0)
  exact⟨_,_,_,run_makeMap t C.w,sy (lo:=some C.w.heap.size) hI hA hd hf0 hw (.inr ⟨rfl,by rw[ta];omega⟩) ⟨C.w.heap.size,#[],0,by simp[Cx.push],nv _ _,trivial⟩ ⟨C.w.heap.size,by simp[Cx.push],rfl⟩⟩
 ·cases h
theorem t9 (hT:TOK P T)(hI:Inv B s C){nt:Nat}{a:Act}(hA:AInv nt s C a){d:Option Tmp}(hd:∀i,d=some i->i<nt){t:TypeId}{m key x:AV}{mv kv xv:Value}(hm:TR C m mv)(hk:TR C key kv)(hx:TR C x xv){asks:List Bool}{e:Eff}
  (h:tO T s t m key x= .ret asks e):
  asks=[]/\e.new=[]/\∃w' C',(Instr.mapUpdate t mv kv xv).run P C.w= .ok () w'/\Post1 B nt s C e d (a.put d undef) w' C':=by
 unfold tO at h
 split at h
 ·rename_i tg b k htg
  obtain⟨kt,et,hu,huk,hes,_⟩:=Ab hT htg
  split at h
  ·rename_i tg' es hb hok
   split at h
   ·rename_i y hy ht
    obtain rfl:=wk.1 ht
    obtain⟨rfl,rfl⟩:=OpRes.ret.inj h
    refine⟨rfl,rfl,?_⟩
    obtain⟨c,hc,rfl⟩:=(hm:VP C (.mapr b) mv)
    obtain rfl:kv= .int .i64 k:=hk
    have hbl:BR C b (.map tg es):=by have:=hI.bl b;rwa [hb]at this
    obtain⟨c',ms,clock,hl,hh,hall⟩:=hbl
    obtain rfl:=tB hc hl
    have htg':tg≠ .grp:=by rintro rfl;simp[esz]at hes
    obtain⟨ay,hay⟩:=sS.1 ((fj tg y).trans hes)
    have hsc:enc tg y=[x]/\vu x=true:=by
     obtain⟨z0,hz0,hz1⟩:=Bb hy 0 ay (by rw[hay];rfl)
     have hs:=qM htg' y ay (by rw[hay];simp)
     obtain rfl:x=z0:=by simpa using hz0
     rcases hz1 with rfl|⟨rfl,_⟩
     ·exact⟨hay,hs⟩
     ·cases hs
    have hsx:AA x=some xv:=R0.of_VR hsc.2 (xm hx (fun cs g=>by rw[g]at hsc;cases hsc.2) (fun cs g=>by rw[g]at hsc;cases hsc.2))
    have hkey:=run_checkKey (w:=C.w) huk (k:= .int .i64 k) (by trivial) false 9999
    have post:∀(ms':Array MapEntry) (clock':Nat),jw (MR tg) (wA es k y) ms'.toList->
      ∃C',Post1 B nt s C ⟨.dead,[(b,.blk (.map tg (wA es k y)))],[]⟩ d (a.put d undef) {C.w with heap:=C.w.heap.setIfInBounds c (.map ms' clock')} C':=by
     intro ms' clock' hall'
     obtain⟨q1,q2⟩:=heap_set (o':= .map ms' clock') hh
     refine⟨_,sB (nb:= .map tg (wA es k y)) hI hA hd hc (by rw[hb];rfl) (by simp) ⟨rfl,rfl,rfl⟩ (fun j hj=>q2 j hj) (fun x hx=>?_) (by rw[hb];exact⟨_,rfl⟩) (fun z hz=>?_) (fun hbn o ho=>ah (dH hI hok hbn o) ho) (fun hbn=> .inl ⟨0,dH hI hok hbn 0⟩) rfl (fun E=>⟨c,ms',clock',hc,q1,hall'⟩) (fun q=>?_) (by simp)⟩
     ·simp[World.shape?,hh]at hx
     ·rw[hb]at hz
      refine⟨fun cs0 h0=>?_,fun ds e=>by cases e⟩
      obtain⟨ds,e1,e2⟩:=hz.1 cs0 h0
      cases e1
     ·simp only[cF,look_cons,WU.app]
      by_cases e:q=b
      ·rw[aa e,aa e.symm]
      ·rw[ae e,ae (fun g=>e g.symm)]
    rcases yg k es ms.toList 0 hall with ⟨g1,j,m',g2,g3,g4,g5,g6⟩|⟨g1,g2,g3,g4⟩
    ·have hall':=g6 y x xv hsc.1 hsx
     obtain⟨C',hP⟩:=post (ms.modify j fun e=>{e with key:= .int .i64 k,val:=xv}) clock (by simpa using hall')
     refine⟨_,C',?_,hP⟩
     have g3':ms[j]? =some m':=by simpa using g3
     have hsb:Instr.sameBits 10000 (.int .i64 k) (.int .i64 k)=true:=by simp[Instr.sameBits]
     simp[Instr.mapUpdate,run_underlying hu,Go.MapKept.run_getObj_map hh,hkey,run_findKey huk g2,g3',Instr.keyThatStays,g4,hsb,Go.MapKept.run_setObj_map _ hh]
    ·have hall':=g4 y x xv clock hsc.1 hsx
     obtain⟨C',hP⟩:=post (ms.push {key:= .int .i64 k,val:=xv,born:=clock}) (clock+1) (by simpa using hall')
     refine⟨_,C',?_,hP⟩
     simp[Instr.mapUpdate,run_underlying hu,Go.MapKept.run_getObj_map hh,hkey,run_findKey huk g2,Go.MapKept.run_setObj_map _ hh]
   ·cases h
  ·cases h
 ·cases h
theorem Ed (hT:TOK P T)(hI:Inv B s C){t:TypeId}{m key:AV}{mv kv:Value}{ok:Bool}(hm:TR C m mv)(hk:TR C key kv){asks:List Bool}{e:Eff}
  (h:BD T s t m key ok= .ret asks e):
  asks=[]/\e.upd=[]/\e.new=[]/\∃x,(Instr.lookup t mv kv ok).run P C.w= .ok x C.w/\TR C e.v x:=by
 unfold BD at h
 split at h
 ·rename_i tg b k htg
  obtain⟨kt,et,hu,huk,hes,inf,z,hinf,hz,hzo,hza⟩:=Ab hT htg
  split at h
  ·rename_i tg' es hb
   split at h
   ·rename_i v hv ht
    obtain rfl:=wk.1 ht
    obtain⟨c,hc,rfl⟩:=(hm:VP C (.mapr b) mv)
    obtain rfl:kv= .int .i64 k:=hk
    have hbl:BR C b (.map tg es):=by have:=hI.bl b;rwa [hb]at this
    obtain⟨c',ms,clock,hl,hh,hall⟩:=hbl
    obtain rfl:=tB hc hl
    have htg':tg≠ .grp:=by rintro rfl;simp[esz]at hes
    have fin:∀(x:Value) (hs:Bool),R0 v x->(yE es k=hs)->(match ok with|true=>val (.tup [v,.bool (yE es k)])|false=>val v)= .ret asks e->
      asks=[]/\e.upd=[]/\e.new=[]/\TR C e.v (if ok then .tuple #[x,.bool hs]else x):=by
     intro x hs hr hh h
     cases ok with
     |true=>
      obtain⟨rfl,rfl⟩:=bP h
      exact⟨rfl,rfl,rfl,_,rfl,by rw[hh];exact⟨(TR.of_VR (R0.vr hr):TR C v x) |> fun g=>by cases v<;>first|exact g|(simp[R0,AA]at hr),rfl,trivial⟩⟩
     |false=>
      obtain⟨rfl,rfl⟩:=bP h
      exact⟨rfl,rfl,rfl,TR.of_VR (R0.vr hr)⟩
    rcases yg k es ms.toList 0 hall with ⟨g1,j,m',g2,g3,g4,g5,g6⟩|⟨g1,g2,g3,g4⟩
    ·obtain⟨a,e1,e2⟩:=g5 (aJ tg)
     rw[hv]at e1
     obtain rfl:v=a:=by simpa using e1
     obtain⟨f1,f2,f3,f4⟩:=fin _ true e2 g1 h
     refine⟨f1,f2,f3,_,?_,f4⟩
     simp[Instr.lookup,run_underlying hu,Go.MapKept.run_getObj_map hh,run_checkKey huk (k:= .int .i64 k) (by trivial),run_findKey huk g2]
    ·rw[g3]at hv
     rw[hv]at hzo
     obtain⟨w1,w2⟩:=lS C _ _ hzo
     have hvs:vu v=true:=qM htg' (aJ tg) v (by rw[hv];simp)
     obtain⟨u,hu',hr⟩:=(ER.of_one (kG tg (aJ tg) v (by rw[hv];simp))).1 w2.cons.1
     have hr':=R0.of_VR hvs hr
     have hzu:z=u:=by rw[hza]at hu';simpa using hu'
     subst hzu
     obtain⟨f1,f2,f3,f4⟩:=fin _ false hr' g1 h
     refine⟨f1,f2,f3,_,?_,f4⟩
     simp[Instr.lookup,run_underlying hu,Go.MapKept.run_getObj_map hh,run_checkKey huk (k:= .int .i64 k) (by trivial),run_findKey huk g2,zeroValue,typeInfo,hinf,hz]
   ·cases h
  ·cases h
 ·cases h
end
end Go.Den
namespace Go.Den
section
variable {P:Program}{T:Tr TI}{C:Cx}
def eqFs (P:Program):Nat->List AV->List Field->Bool
 |_,[],[]=>true
 |o,a::r,f::fs=>(f.name != "_")&&(Nat.beq f.offset o&&((match a,P.underlying f.type with
   | .bool _,some .bool=>true
   | .int _ _,some (.int _)=>true
   | .str _,some .string=>true
   | .arr .i n _,some (.array m e)=>Nat.beq n m&&((match P.info? f.type with|some i=>Nat.beq i.size n|none=>false)&&(Nat.beq (P.cellsOf e) 1&&((match P.info? e with|some _=>true|none=>false)&&(match P.underlying e with|some (.int _)=>true|_=>false))))
   |_,_=>false)&&eqFs P (o+a.width) r fs))
 |_,_,_=>false
def eqOK (P:Program)(t:TypeId)(ti:TI):Bool:=match P.underlying t with
 |some (.struct fs)=> !P.stoodInHeld t&&(!P.eqGuardType P.depth t&&eqFs P 0 ti.zero fs.toList)
 |_=>false
def eqTab (P:Program)(t:TypeId)(ti:TI):Bool:=match ti.eqk with
 |true=>eqOK P t ti
 |false=>true
theorem DB (s:List UInt8):(⟨s.toArray⟩:ByteArray).toList=s:=by rw[ByteArray.toList_eq]
theorem wO {xs:Array Value}{o n i:Nat}{v:Value}(hi:i<n)(h:xs[o+i]? =some v):(xs.extract o (o+n))[i]? =some v:=by
 have hb:o+i<xs.size:=(mR.1 h).1
 rw[Array.getElem?_extract,aa (by omega),h]
theorem lN {ft:TypeId}{d:TypeDesc}(hu:P.underlying ft=some d)(hd:d.isRow=false){xs:Array Value}{o:Nat}{v:Value}(hx:xs[o]? =some v)(w:World):(part ft xs o).run P w= .ok v w:=by
 cases d<;>first|(cases hd;done)|simp[part,isAgg,run_underlying hu,hx]
theorem tU {e:TypeId}{k:IntKind}(he:P.underlying e=some (.int k))(d:Nat){xs ys:Array Value}{X Y:List Int}(w:World):∀(is:List Nat),(∀i∈is,xs[i]? =some (.int .i64 (X.getD i 0))/\ys[i]? =some (.int .i64 (Y.getD i 0)))->
  (Op.eqItems (d+1) e 1 xs ys is).run P w= .ok (decide (is.map (X.getD · 0)=is.map (Y.getD · 0))) w
 |[],_=>by simp[Op.eqItems]
 |i::is,h=>by
  obtain⟨h1,h2⟩:=h i (bq ..)
  have ih:=tU he d w is fun j hj=>h j (bt _ hj)
  simp only[Op.eqItems,Sem.run_bind,eB,lN he rfl h1,lN he rfl h2,Result.andThen_ok,run_equalIn_int w d e .i64 k _ _ he]
  by_cases g:X.getD i 0=Y.getD i 0
  ·simp only[g,beq_self_eq_true,kB,og,if_false,ih,jQ,List.cons.injEq,true_and]
  ·have:(X.getD i 0==Y.getD i 0)=false:=by simpa using g
   simp only[this,Bool.not_false,if_true,Sem.run_pure,jQ,List.cons.injEq,g,false_and,decide_false]
theorem Ih {a b:AV}{as bs:List AV}{r:Bool}(h:eqC (a::as) (b::bs)=some r):∃x y,eqV a b=some x/\eqC as bs=some y/\r=(x&&y):=by
 cases as with
 |nil=>cases bs with
  |nil=>exact⟨r,true,by simpa[eqC]using h,rfl,by simp⟩
  |cons=>simp[eqC]at h
 |cons a2 as=>cases bs with
  |nil=>simp[eqC]at h
  |cons b2 bs=>
   simp only[eqC]at h
   split at h
   ·rename_i x y hx hy
    exact⟨x,y,hx,hy,(aw h).symm⟩
   ·cases h
theorem wb {a b:AV}{as bs:List AV}(h:ph (a::as) (b::bs)=true):ph as bs=true/\
  ((∃x y,a= .bool x/\b= .bool y)\/(∃j x y,a= .int j x/\b= .int j y)\/(∃x y,a= .str x/\b= .str y)\/∃n x y,a= .arr .i n x/\b= .arr .i n y):=by
 unfold ph at h
 split at h
 ·rename_i e _;cases e
 ·rename_i x r y q e1 e2
  obtain⟨rfl,rfl⟩:=List.cons.inj e1;obtain⟨rfl,rfl⟩:=List.cons.inj e2
  exact⟨h,.inl ⟨_,_,rfl,rfl⟩⟩
 ·rename_i j x r k y q e1 e2
  obtain⟨rfl,rfl⟩:=List.cons.inj e1;obtain⟨rfl,rfl⟩:=List.cons.inj e2
  simp only[ar]at h
  obtain rfl:=gS.1 h.1
  exact⟨h.2,.inr (.inl ⟨_,_,_,rfl,rfl⟩)⟩
 ·rename_i x r y q e1 e2
  obtain⟨rfl,rfl⟩:=List.cons.inj e1;obtain⟨rfl,rfl⟩:=List.cons.inj e2
  exact⟨h,.inr (.inr (.inl ⟨_,_,rfl,rfl⟩))⟩
 ·rename_i n x r m y q e1 e2
  obtain⟨rfl,rfl⟩:=List.cons.inj e1;obtain⟨rfl,rfl⟩:=List.cons.inj e2
  simp only[ar]at h
  obtain rfl:=j4.1 h.1
  exact⟨h.2,.inr (.inr (.inr ⟨_,_,_,rfl,rfl⟩))⟩
 ·cases h
theorem CN (d:Nat)(w:World):∀(z cs ds:List AV) (fs:List Field) (o:Nat) (xs ys:Array Value) (r:Bool),eqFs P o z fs=true->ph z cs=true->ph z ds=true->eqC cs ds=some r->
  CR C cs (fun k=>xs[o+k]?)->CR C ds (fun k=>ys[o+k]?)->(Op.eqFields (d+2) xs ys fs).run P w= .ok r w
 |[],cs,ds,fs,o,xs,ys,r,h,h1,h2,h3,_,_=>by
  cases fs with
  |cons=>simp[eqFs]at h
  |nil=>
   cases cs with
   |cons=>simp[ph]at h1
   |nil=>cases ds with
    |cons=>simp[ph]at h2
    |nil=>simp[eqC]at h3;subst h3;simp[Op.eqFields]
 |a::z,[],ds,fs,o,xs,ys,r,h,h1,_,_,_,_=>by cases a<;>simp[ph]at h1
 |a::z,_::_,[],fs,o,xs,ys,r,h,_,h2,_,_,_=>by cases a<;>simp[ph]at h2
 |a::z,c::cs,e::ds,[],o,xs,ys,r,h,_,_,_,_,_=>by simp[eqFs]at h
 |a::z,c::cs,e::ds,f::fs,o,xs,ys,r,h,h1,h2,h3,hx,hy=>by
  obtain⟨k1',k1⟩:=wb h1
  obtain⟨k2',k2⟩:=wb h2
  obtain⟨p,q,hp,hq,rfl⟩:=Ih h3
  obtain⟨hx1,hx2⟩:=hx.cons
  obtain⟨hy1,hy2⟩:=hy.cons
  simp only[eqFs,ar,j4]at h
  obtain⟨hn,ho,ht,hr⟩:=h
  have hwc:c.width=a.width/\e.width=a.width:=by
   rcases k1 with ⟨x,y,rfl,rfl⟩|⟨j,x,y,rfl,rfl⟩|⟨x,y,rfl,rfl⟩|⟨n,x,y,rfl,rfl⟩<;>rcases k2 with ⟨x',y',e1,rfl⟩|⟨j',x',y',e1,rfl⟩|⟨x',y',e1,rfl⟩|⟨n',x',y',e1,rfl⟩<;>cases e1<;>exact⟨rfl,rfl⟩
  have ih:=CN d w z cs ds fs (o+a.width) xs ys q hr k1' k2' hq (hx2.congr fun k _=>by rw[hwc.1,iz]) (hy2.congr fun k _=>by rw[hwc.2,iz])
  have hn':f.name≠ "_" :=by simpa using hn
  have fin:∀u v,(part f.type xs f.offset).run P w= .ok u w->(part f.type ys f.offset).run P w= .ok v w->(Op.equalIn (d+2) f.type u v).run P w= .ok p w->(Op.eqFields (d+2) xs ys (f::fs)).run P w= .ok (p&&q) w:=by
   intro u v g1 g2 g3
   simp only[Op.eqFields,hn',ne_eq,not_false_eq_true,if_true,Sem.run_bind,g1,g2,g3,Result.andThen_ok]
   cases p
   ·simp
   ·simpa using ih
  have ho:=j4.1 (by simpa using ho:Nat.beq f.offset o=true)
  rcases k1 with ⟨x,y,rfl,rfl⟩|⟨j,x,y,rfl,rfl⟩|⟨x,y,rfl,rfl⟩|⟨n,x,y,rfl,rfl⟩<;>rcases k2 with ⟨x',y',e1,rfl⟩|⟨j',x',y',e1,rfl⟩|⟨x',y',e1,rfl⟩|⟨n',x',y',e1,rfl⟩<;>cases e1
  ·split at ht<;>first|(cases ht;done)|skip
   all_goals first|(rename_i e1 _;cases e1;done)|skip
   rename_i hu
   obtain⟨u,hu1,rfl⟩:=hx1
   obtain⟨v,hv1,rfl⟩:=hy1
   obtain rfl:eqB y y'=p:=by simpa[eqV]using hp
   exact fin _ _ (lN hu rfl (by rw[ho];exact hu1) w) (lN hu rfl (by rw[ho];exact hv1) w) (run_equalIn_bool' w _ _ _ _ hu)
  ·split at ht<;>first|(cases ht;done)|skip
   all_goals first|(rename_i e1 _;cases e1;done)|skip
   rename_i k' hu
   obtain⟨u,hu1,rfl⟩:=hx1
   obtain⟨v,hv1,rfl⟩:=hy1
   have hpp:eqI y y'=p:=by simpa[eqV,gS.2 rfl]using hp
   refine fin _ _ (lN hu rfl (by rw[ho];exact hu1) w) (lN hu rfl (by rw[ho];exact hv1) w) ?_
   rw[run_equalIn_int w _ _ _ _ _ _ hu,<-hpp]
   congr 1
  ·split at ht<;>first|(cases ht;done)|skip
   all_goals first|(rename_i e1 _;cases e1;done)|skip
   rename_i hu
   obtain⟨u,hu1,rfl⟩:=hx1
   obtain⟨v,hv1,rfl⟩:=hy1
   have hpp:eqS y y'=p:=by simpa[eqV]using hp
   refine fin _ _ (lN hu rfl (by rw[ho];exact hu1) w) (lN hu rfl (by rw[ho];exact hv1) w) ?_
   rw[run_equalIn_string w _ _ _ _ hu,<-hpp]
   congr 1
   rw[DB,DB,A1];rfl
  ·split at ht<;>first|(cases ht;done)|skip
   all_goals first|(rename_i e1 _;cases e1;done)|skip
   rename_i n0 xs0 m el e1 hu
   simp only[AV.arr.injEq]at e1
   obtain⟨rfl,-⟩:=e1.2
   simp only[ar,j4]at ht
   obtain⟨rfl,hti,hce,hei,hek⟩:=ht
   split at hti
   ·rename_i inf hinf
    have hti:=j4.1 hti
    split at hei
    ·rename_i infe hinfe
     split at hek
     ·rename_i ke hke
      have hpp:eqA n y y'=p:=by
       have:=j4.2 (rfl:n=n)
       simpa[eqV,this]using hp
      have sz:(sizeOf f.type).run P w= .ok n w:=by simp[sizeOf,typeInfo,hinf,hti]
      have pt:∀(zs:Array Value),(part f.type zs f.offset).run P w= .ok (.agg (zs.extract f.offset (f.offset+n))) w:=fun zs=>by
       simp[part,isAgg,run_underlying hu,sz]
      refine fin _ _ (pt xs) (pt ys) ?_
      rw[run_equalIn_array w (d+1) _ _ hu hinfe,hce,tU hke d w _ (X:=y) (Y:=y') (fun i hi=>?_),<-hpp]
      ·rfl
      ·have hi:i<n:=by simpa using hi
       obtain⟨u,e',h1,h2,h3⟩:=hx1 i hi
       obtain⟨v,e'',g1,g2,g3⟩:=hy1 i hi
       simp only[enc,List.cons.injEq,and_true]at h2 g2
       subst h2;subst g2
       simp only[AA,Option.some.injEq]at h3 g3
       subst h3;subst g3
       rw[ho]
       simp only[eP]at h1 g1
       exact⟨wO hi h1,wO hi g1⟩
     ·cases hek
    ·cases hei
   ·cases hti
theorem Ij (h:T.all (eqTab P)=true):DH P T:=by
 intro t ti ht hk C cs ds xs ys r x y op h1 h2 h3 hx hy
 have:=Tr.all_get h ht
 unfold eqTab at this
 rw[hk]at this
 dsimp only at this
 unfold eqOK at this
 split at this
 ·rename_i fs hu
  simp only[ar,ef]at this
  obtain⟨g1,g2,g3⟩:=this
  obtain⟨l,el,_,hx⟩:=(hx:∃l:Array Value,Value.agg xs= .agg l/\l.size=bw cs/\CR C cs (fun o=>l[o]?))
  obtain⟨m,em,_,hy⟩:=(hy:∃l:Array Value,Value.agg ys= .agg l/\l.size=bw ds/\CR C ds (fun o=>l[o]?))
  cases el;cases em
  have hf:P.fieldsOf t=fs:=by simp[Program.fieldsOf,hu]
  refine⟨run_eqGuard_agg C.w op t x y xs ys g2,?_⟩
  have:=run_equalIn_struct C.w 9999 t xs ys (by rw[hf];exact hu) g1
  rw[hf]at this
  refine this.trans ?_
  exact CN 9997 C.w ti.zero cs ds fs.toList 0 xs ys r g3 h1 h2 h3 (by simpa using hx) (by simpa using hy)
 ·cases this
end
end Go.Den
namespace Go.Den
open Go.RowKit (Below)
section
variable {P:Program}{T:Tr TI}{B:Bs}{s:St}{C:Cx}
def DL (P:Program)(B:Bs)(nt:Nat)(s:St)(C:Cx)(a:Act)(o:Oper)(e:Eff):Prop:=
 ∃nx u w' C',(execOp a.eval o).run P C.w= .ok nx w'/\(nx= .value u\/(nx= .skip/\u=undef))/\Post1 B nt s C e o.dst (a.put o.dst u) w' C'
theorem Em {c x y:AV}{cv xv yv:Value}(hc:TR C c cv)(hx:TR C x xv)(hy:TR C y yv){asks:List Bool}{e:Eff}(h:pickC c x y= .ret asks e):
  ∃v,e=⟨v,[],[]⟩/\∃b,cv= .bool b/\TR C v (if b then xv else yv):=by
 unfold pickC at h
 split at h
 ·obtain⟨rfl,rfl⟩:=bP h;exact⟨_,rfl,true,hc,hx⟩
 ·obtain⟨rfl,rfl⟩:=bP h;exact⟨_,rfl,false,hc,hy⟩
 ·cases h
theorem AY (hT:TOK P T)(hI:Inv B s C){nt:Nat}{a:Act}(hA:AInv nt s C a){d:Option Tmp}(hd:∀i,d=some i->i<nt){t:TypeId}{asks:List Bool}{e:Eff}(h:Cy T s t= .ret asks e)(hf:∀i,i<lenN e.new->¬C.used (s.n+i)):
  ∃x w' C',(Instr.alloc t true (.tuple #[])).run P C.w= .ok x w'/\Post1 B nt s C e d (a.put d x) w' C':=by
 unfold Cy at h
 split at h
 ·rename_i ti ht
  obtain⟨i,dd,F⟩:=hT.fact ht
  obtain⟨z,hz,hzw,hzo⟩:=F.zero
  obtain⟨rfl,rfl⟩:=OpRes.ret.inj h
  have hf0:¬C.used s.n:=by have:=hf 0 (by simp[lenN]);simpa using this
  obtain⟨z1,z2⟩:=lS C _ _ hzo
  obtain⟨C',hP⟩:=Dp (d:=d) (t:=t) (arr:=z.cells) hI hA hd hf0 (by simpa using z1.symm) (by simpa using z2)
  refine⟨_,_,C',?_,hP⟩
  simp[Instr.alloc,zeroValue,typeInfo,F.info,hz,newVar,newRow]
 ·cases h
theorem Fo (hI:Inv B s C){nt:Nat}{a:Act}(hA:AInv nt s C a){d:Option Tmp}(hd:∀i,d=some i->i<nt){t:TypeId}{x:AV}{xv:Value}(hx:TR C x xv){asks:List Bool}{e:Eff}(h:boxC s x= .ret asks e)(hf:∀i,i<lenN e.new->¬C.used (s.n+i)):
  ∃u w' C',(Instr.box t xv).run P C.w= .ok u w'/\Post1 B nt s C e d (a.put d u) w' C':=by
 unfold boxC at h
 split at h
 ·cases h
 ·rename_i hn
  obtain⟨rfl,rfl⟩:=OpRes.ret.inj h
  have hf0:¬C.used s.n:=by have:=hf 0 (by simp[lenN]);simpa using this
  obtain⟨z1,z2⟩:=hx.cells (isNil_iff.1 hn)
  obtain⟨C',hP⟩:=Dp (d:=d) (t:=t) (arr:=xv.cells) hI hA hd hf0 z1 z2
  refine⟨_,_,C',?_,hP⟩
  simp[Instr.box,newVar,newRow]
theorem GH {x:AV}{xv:Value}(hx:TR C x xv){asks:List Bool}{e:Eff}(h:nilC x= .ret asks e):
  e=⟨x,[],[]⟩/\((∃p,xv= .pointer (some p))\/∃f a b,xv= .func (.func f) a b):=by
 unfold nilC at h
 split at h
 ·rename_i b o;obtain⟨rfl,rfl⟩:=bP h;obtain⟨c,_,rfl⟩:=(hx:VP C (.ptr b o) xv);exact⟨rfl,.inl ⟨_,rfl⟩⟩
 ·rename_i b t i o;obtain⟨rfl,rfl⟩:=bP h;obtain⟨c,_,_,_,rfl,_⟩:=(hx:VP C (.ptrE b t i o) xv);exact⟨rfl,.inl ⟨_,rfl⟩⟩
 ·rename_i t xs i o;obtain⟨rfl,rfl⟩:=bP h;obtain⟨c,_,_,_,_,rfl⟩:=(hx:VP C (.ptrL t xs i o) xv);exact⟨rfl,.inl ⟨_,rfl⟩⟩
 ·rename_i b o n i;obtain⟨rfl,rfl⟩:=bP h;obtain⟨c,_,_,_,rfl⟩:=(hx:VP C (.ptrI b o n i) xv);exact⟨rfl,.inl ⟨_,rfl⟩⟩
 ·rename_i f a b;obtain⟨rfl,rfl⟩:=bP h;obtain⟨f',c',rfl,_⟩:=(hx:VR C (.func (.func f) a b) xv);exact⟨rfl,.inr ⟨_,_,_,rfl⟩⟩
 ·cases h
theorem vV {a:Act}{nt:Nat}(hA:AInv nt s C a):∀(l:List Operand),As (l.map s.ev)=true->jw (VP C) (l.map s.ev) (l.map a.eval)
 |[],_=>trivial
 |x::r,h=>by
  have hx:=gp hA x
  simp only[jQ]at h|-
  generalize s.ev x=v at h hx|-
  cases v<;>simp only[As]at h<;>first|(cases h;done)|exact⟨hx,vV hA r h⟩
theorem wy {a:Act}{nt:Nat}(hA:AInv nt s C a){fn:Fn}{f c:List Operand}{asks:List Bool}{e:Eff}(h:vG fn (f.map s.ev) (c.map s.ev)= .ret asks e):
  ∃v,e=⟨v,[],[]⟩/\TR C v (.func fn (f.map a.eval).toArray (c.map a.eval).toArray):=by
 unfold vG at h
 split at h
 ·rename_i hp
  simp only[ar]at hp
  obtain⟨rfl,rfl⟩:=bP h
  exact⟨_,rfl,_,_,rfl,vV hA f hp.1,vV hA c hp.2⟩
 ·cases h
theorem jw.at {α β:Type}{R:α->β->Prop}:∀ {as:List α} {bs:List β},jw R as bs->∀ {i:Nat} {a:α},as[i]? =some a->∃b,bs[i]? =some b/\R a b
 |[],_,_,i,a,ha=>by simp at ha
 |a::as,b::bs,h,0,x,ha=>by simp at ha;subst ha;exact⟨b,rfl,h.1⟩
 |a::as,b::bs,h,i+1,x,ha=>by
  obtain⟨y,hy,hr⟩:=jw.at h.2 (i:=i) (by simpa using ha)
  exact⟨y,by simpa using hy,hr⟩
theorem jw.length {α β:Type}{R:α->β->Prop}:∀ {as:List α} {bs:List β},jw R as bs->as.length=bs.length
 |[],[],_=>rfl
 |[],_::_,h=>h.elim
 |_::_,[],h=>h.elim
 |_::_,_::_,h=>by simp[jw.length h.2]
theorem TR.of1 {v:AV}{x:Value}(h:TR1 C v x):TR C v x:=by
 cases v<;>first|exact h|exact h.elim
theorem yd {x:AV}{xv:Value}{i:Nat}(hx:TR C x xv){asks:List Bool}{e:Eff}(h:yc x i= .ret asks e):
  ∃v,e=⟨v,[],[]⟩/\∃u,(Instr.extract xv i).run P C.w= .ok u C.w/\TR C v u:=by
 unfold yc at h
 split at h
 ·rename_i vs
  obtain⟨l,rfl,hl⟩:=hx
  split at h
  ·rename_i v hv
   obtain⟨rfl,rfl⟩:=bP h
   rw[nth_eq]at hv
   obtain⟨u,hu,hr⟩:=hl.at hv
   refine⟨_,rfl,u,?_,TR.of1 hr⟩
   have hu':l[i]? =some u:=by simpa using hu
   simp[Instr.extract,hu']
  ·cases h
 ·cases h
theorem Gn (hT:TOK P T)(hI:Inv B s C){ts:List TypeId}{xs:List AV}{vs:List Value}(hx:jw (TR C) xs vs)(ty:TypeId){asks:List Bool}{e:Eff}(h:lenC T s ts xs= .ret asks e):
  ∃v,e=⟨v,[],[]⟩/\∃u,(Builtin.len_ ts.toArray ty vs.toArray).run P C.w= .ok u C.w/\TR C v u:=by
 unfold lenC at h
 split at h
 ·rename_i x t
  obtain⟨v,rfl⟩:∃v,vs=[v]:=by
   cases vs with
   |nil=>exact hx.elim
   |cons v r=>cases r with
    |nil=>exact⟨v,rfl⟩
    |cons=>exact hx.2.elim
  replace hx:=hx.1
  split at h
  ·rename_i ti ht
   obtain⟨i,dd,F⟩:=hT.fact ht
   have hdd:=F.desc
   have hu:=F.und
   split at h
   ·rename_i n hn
    obtain⟨rfl,rfl⟩:=bP h
    refine⟨_,rfl,.int .i64 n,?_,rfl⟩
    unfold lenV at hn
    split at hn
    ·rename_i l hd
     rw[hd]at hdd;obtain rfl:=ml hdd
     obtain rfl:v= .string ⟨l.toArray⟩:=hx
     obtain rfl:=aw hn
     simp[Builtin.len_,run_underlying hu,goInt,nK,da]
    ·rename_i e l xs hd
     rw[hd]at hdd;obtain rfl:=dx hdd
     obtain⟨a,cap,rfl,_⟩:=(hx:nN _ _ _ _ _ v)
     obtain rfl:=aw hn
     simp[Builtin.len_,run_underlying hu,goInt,da]
    ·rename_i e hd
     rw[hd]at hdd;obtain rfl:=dx hdd
     obtain rfl:v= .slice none 0 0:=hx
     obtain rfl:=aw hn
     simp[Builtin.len_,run_underlying hu,goInt]
    ·rename_i e b hd
     rw[hd]at hdd;obtain rfl:=dx hdd
     obtain⟨hub,_,hv⟩:=(hx:VP C (.vec b) v)
     rw[hI.eqb]at hv
     split at hn
     ·rename_i t' xs f hb
      obtain rfl:=aw hn
      rw[hb]at hv
      dsimp only at hv
      split at hv
      ·obtain⟨cap,_,_,rfl,_⟩:=hv
       simp[Builtin.len_,run_underlying hu,goInt,da]
      ·obtain⟨rfl,rfl⟩:=hv
       simp[Builtin.len_,run_underlying hu,goInt,da]
     ·rename_i cs hb
      obtain rfl:=aw hn
      rw[hb]at hv
      dsimp only at hv
      obtain⟨c,_,rfl⟩:=hv
      simp[Builtin.len_,run_underlying hu,goInt,lenN_eq]
     ·cases hn
    ·rename_i e b m hd
     rw[hd]at hdd;obtain rfl:=dx hdd
     obtain⟨hub,_,hm,hv⟩:=(hx:VP C (.pre b m) v)
     rw[hI.eqb]at hv
     split at hn
     ·rename_i t' xs f hb
      obtain rfl:=aw hn
      rw[hb]at hv
      obtain⟨hmx,hv⟩:=hv
      split at hv
      ·obtain⟨cap,rfl,_⟩:=hv
       simp[Builtin.len_,run_underlying hu,goInt,Int.max_eq_left hm]
      ·obtain⟨rfl,rfl⟩:=hv
       simp[Builtin.len_,run_underlying hu,goInt]
     ·rename_i cs hb
      obtain rfl:=aw hn
      rw[hb]at hv
      obtain⟨hmx,c,cap,_,rfl⟩:=hv
      simp[Builtin.len_,run_underlying hu,goInt,Int.max_eq_left hm]
     ·cases hn
    ·rename_i m e hd
     rw[hd]at hdd;obtain rfl:=qL hdd
     obtain rfl:=aw hn
     simp[Builtin.len_,run_underlying hu,goInt]
    ·cases hn
   ·cases h
  ·cases h
 ·cases h
theorem C9 {f:Int->Int->Int}{xs:List AV}{vs:List Value}(hx:jw (TR C) xs vs){asks:List Bool}{e:Eff}(h:mmC f xs= .ret asks e):
  ∃j a b,e=⟨.int j (f a b),[],[]⟩/\vs=[.int j a,.int j b]:=by
 unfold mmC at h
 split at h
 ·rename_i j a j' b
  split at h
  ·rename_i hk
   obtain rfl:=gS.1 hk
   obtain⟨rfl,rfl⟩:=bP h
   refine⟨j,a,b,rfl,?_⟩
   cases vs with
   |nil=>exact hx.elim
   |cons v r=>cases r with
    |nil=>exact hx.2.elim
    |cons v2 r=>cases r with
     |nil=>
      have h1:v= .int j a:=hx.1
      have h2:v2= .int j b:=hx.2.1
      rw[h1,h2]
     |cons=>exact hx.2.2.elim
  ·cases h
 ·cases h
theorem FK {a:Act}{nt:Nat}(hA:AInv nt s C a):∀(l:List Operand),jw (TR C) (l.map s.ev) (l.map a.eval)
 |[]=>trivial
 |x::r=>⟨gp hA x,FK hA r⟩
end
end Go.Den
namespace Go.Den
section
variable {P:Program}{T:Tr TI}{B:Bs}{s:St}{C:Cx}
theorem A7 (hT:TOK P T)(hI:Inv B s C){nt:Nat}{a:Act}(hA:AInv nt s C a){d:Option Tmp}(hd:∀i,d=some i->i<nt){ts:List TypeId}{xs:List AV}{vs:List Value}(hx:jw (TR C) xs vs)(ty:TypeId){asks:List Bool}{e:Eff}
  (h:wK T s ts xs= .ret asks e) (ha:∀b∈asks,b=true):
  ∃u w' C',(Builtin.clear_ ts.toArray ty vs.toArray).run P C.w= .ok u w'/\Post1 B nt s C e d (a.put d u) w' C':=by
 unfold wK at h
 split at h
 rotate_left
 ·cases h
 rename_i t b n
 split at h
 rotate_left
 ·cases h
 rename_i ti ht
 obtain⟨i,dsc,F⟩:=hT.fact ht
 have hdd:=F.desc
 split at h
 rotate_left
 ·cases h
 rename_i e' hd'
 rw[hd']at hdd
 obtain rfl:=dx hdd
 split at h
 rotate_left
 ·cases h
 rename_i te hte
 obtain⟨i',d',F'⟩:=hT.fact hte
 split at h
 rotate_left
 ·cases h
 rename_i tg xs hb hal
 split at h
 rotate_left
 ·cases h
 rename_i htg
 obtain⟨hsz,hby,z,hz,hzo⟩:=F'.tag tg (oJ.1 htg)
 obtain⟨rfl,rfl⟩:=OpRes.ret.inj h
 have hlt:n<(xs.length:Int):=bh (ha _ (cx.2 rfl))
 match vs,hx with
 |[v],hx=>
 obtain⟨hu,hsl,h0,hv⟩:=(hx.1:VP C (.suf b n) v)
 rw[hI.eqb,hb]at hv
 dsimp only at hv
 obtain⟨_,ad,cap,rfl,hcc⟩:=hv
 obtain⟨c,hc,rfl⟩:=hcc hlt
 obtain⟨m,rfl⟩:∃m:Nat,n=m:=⟨n.toNat,by omega⟩
 simp only[bu]at*
 have hm:m<xs.length:=by omega
 have hbl:BR C b (.row tg xs false):=by have:=hI.bl b;rwa [hb]at this
 simp only[BR,hc]at hbl
 obtain⟨arr,tyy,fr,hh,⟨hra,hrc⟩,hnf⟩:=hbl
 have hne':=hnf trivial
 have hnf:=hne'.1
 obtain⟨hz1,hz2⟩:=lS C _ _ hzo
 have hzl:z.cells.size=esz tg:=by rw[gw _ (jm _ _),fj]at hz1;simpa using hz1.symm
 have hwr:wrt (s.blk b)=true:=by rw[hb];rfl
 generalize hcs:(Builtin.zeroCells z.cells (xs.length-m)).toList=cells
 have hcl:cells.length=(xs.length-m)*esz tg:=by rw[<-hcs];simp[Builtin.zeroCells,hzl]
 have hcell:∀k j:Nat,k<xs.length-m->j<esz tg->cells[k*esz tg+j]? =z.cells.toList[j]? :=fun k j hk hj=>by
  have h1:k*esz tg+j<(xs.length-m)*esz tg:=by
   have:(k+1)*esz tg<=(xs.length-m)*esz tg:=ed _ (by omega)
   rw[ci]at this;omega
  have h2:(k*esz tg+j)%esz tg=j:=by rw[cH,Nat.mul_add_mod];exact cb hj
  rw[<-hcs]
  simp only[Builtin.zeroCells,hzl,Array.toList_map,Array.toList_range,lD,List.getElem?_range,h1,Option.map_some]
  rw[h2]
  have h3:j<z.cells.size:=by omega
  simp[h3]
 have hle:(xs.length-m)*esz tg+m*esz tg=xs.length*esz tg:=by rw[<-ci];congr 1;omega
 have hone:∀u∈cells,u.oneCell'=true:=fun u hu=>by
  obtain⟨p,hp,rfl⟩:=jN hu
  have hpos:0<esz tg:=by cases tg<;>decide
  have h1:p/esz tg<xs.length-m:=by rw[jM hpos];omega
  have h2:p%esz tg<esz tg:=cr _ hpos
  have h3:=hcell (p/esz tg) (p%esz tg) h1 h2
  rw[cH,mz,co hp]at h3
  have h4:p%esz tg<(enc tg (aJ tg)).length:=by rw[fj];exact h2
  have h5:=hz2 (p%esz tg) _ (co h4)
  rw[jU _ (jm tg (aJ tg)) _ (by rw[fj];omega)]at h5
  obtain⟨v,hv,hr⟩:=(ER.of_one (kG tg (aJ tg) _ (fG h4))).1 h5
  have hv:z.cells.toList[p%esz tg]? =some v:=hv
  rw[hv]at h3
  obtain rfl:=aw h3
  refine VR.oneCell hr fun e=>?_
  have h6:(enc tg (aJ tg))[p%esz tg]∈enc tg (aJ tg):=fG h4
  rw[e]at h6
  revert h6
  cases tg<;>simp[enc,aJ,HN,xW]
 have hrun:=run_storeCells_cells (P:=P) c (m*esz tg) cells 0 C.w (fun j hj=>by
  simp[World.cell?,hh];omega) (fun j hj=>by
  have:=hnf (m*esz tg+j) (by omega)
  simp[World.frozen?,hh]
  omega) hone
 simp only[iA]at hrun
 obtain⟨arr',g1,g2,g3,g4⟩:=jo cells (m*esz tg) C.w arr hh
 obtain⟨m1,m2,m3,m4⟩:=jt (c:=c) cells (m*esz tg) C.w
 have hrun2:(Builtin.clear_ [t].toArray ty [Value.slice (some ⟨c,m*esz tg,none⟩) (xs.length-m) cap].toArray).run P C.w= .ok (.tuple #[]) (C.w.setCells c (m*esz tg) cells):=by
  obtain⟨q,hq⟩:∃q,xs.length-m=q+1:=⟨xs.length-m-1,by omega⟩
  have hzv:(zeroValue e').run P C.w= .ok z C.w:=by simp[zeroValue,typeInfo,F'.info,hz]
  rw[<-hcs]at hrun|-
  rw[hq]at hrun|-
  simp only[Builtin.clear_,Sem.run_bind,F.run_und,Result.andThen_ok,Sem.run_pure,List.getElem?_toArray,oB]
  simp only[hzv,Result.andThen_ok,hrun]
 have hlist:clrL xs (m:Int) (aJ tg)=xs.take m++List.replicate (xs.length-m) (aJ tg):=by
  simp only[clrL,k9,wt,da,bu]
  congr 2;omega
 rw[hlist]
 refine⟨_,_,_,hrun2,sB (nb:= .row tg (xs.take m++List.replicate (xs.length-m) (aJ tg)) false) hI hA hd hc hwr m1 ⟨m2,m3,m4⟩ (fun k hk=>k6 hk _ _ _) (fun y hy=>?_) ?_ ?_ (fun hbn o ho=>ah (dH hI hal hbn o) ho) (fun hbn=> .inl ⟨0,dH hI hal hbn 0⟩) rfl (fun E=>?_) (fun q=>?_) (by simp)⟩
 ·simp only[World.shape?,hh,g1,g2]at hy|-;exact hy
 ·rw[hb];exact .inr ⟨trivial,_,_,rfl,by simp;omega,id⟩
 ·intro y hy
  rw[hb]at hy
  refine⟨fun cs0 h0=>?_,fun ds e=>by cases e⟩
  obtain⟨ds,e1,e2⟩:=hy.1 cs0 h0
  cases e1
 ·have hcl2:(C.upd (C.w.setCells c (m*esz tg) cells) b (.row tg (xs.take m++List.replicate (xs.length-m) (aJ tg)) false)).loc b=some c:=hc
  simp only[BR,hcl2]
  refine⟨arr',tyy,fr,g1,⟨by rw[g2];simp;rw[show min m xs.length+(xs.length-m)=xs.length by omega];exact hra,fun p y hy q e he=>?_⟩,fun _=>hne'.of g2⟩
  have hq:q<esz tg:=by rw[<-fj tg y];exact(bj.1 he).1
  by_cases hp:p<m
  ·rw[lB (by simp;omega),mw,aa hp]at hy
   obtain⟨v,hv,hr⟩:=hrc p y hy q e he
   refine⟨v,?_,hr.ext E⟩
   rw[g3 _ (.inl ?_)]
   ·exact hv
   ·have:(p+1)*esz tg<=m*esz tg:=ed _ hp
    rw[ci]at this;omega
  ·rw[mQ (by simp;omega)]at hy
   have hlen:p-(xs.take m).length<xs.length-m:=by
    have:=(bj.1 hy).1
    simpa using this
   have hy':y=aJ tg:=by
    have:=(bj.1 hy).2
    rw[<-this];simp
   subst hy'
   have hmin:(xs.take m).length=m:=by simp;omega
   rw[hmin]at hlen
   obtain⟨k,rfl⟩:∃k,p=m+k:=⟨p-m,by omega⟩
   have h5:=hz2 q e he
   rw[jU _ (jm tg (aJ tg)) q (by rw[fj];omega)]at h5
   obtain⟨v,hv,hr⟩:=(ER.of_one (kG tg (aJ tg) e (cw he))).1 h5
   have hk:k*esz tg+q<cells.length:=by
    rw[hcl]
    have:(k+1)*esz tg<=(xs.length-m)*esz tg:=ed _ (by omega)
    rw[ci]at this;omega
   have h6:=g4 (k*esz tg+q) (by omega) hk
   rw[show m*esz tg+(k*esz tg+q)=(m+k)*esz tg+q by rw[ci];omega,hcell k q (by omega) hq]at h6
   exact⟨v,h6.trans hv,(R1.of_VR (cw he) hr).ext E⟩
 ·simp only[cF,look_cons,WU.app]
  by_cases e:q=b
  ·rw[aa e,aa e.symm]
  ·rw[ae e,ae (fun g=>e g.symm)]
end
end Go.Den
namespace Go.Den
open Go.RowKit (Below)
section
variable {P:Program}{T:Tr TI}{B:Bs}{s:St}{C:Cx}
theorem Ku {a:Act}{nt:Nat}(hA:AInv nt s C a)(x:Option Operand):match x.map s.ev,x.map a.eval with|none,none=>True|some u,some v=>TR C u v|_,_=>False:=by
 cases x with
 |none=>trivial
 |some x=>exact gp hA x
theorem Dj (hT:TOK P T)(hQ:DH P T)(hI:Inv B s C){nt:Nat}{a:Act}(hA:AInv nt s C a){o:Oper}(hd:∀i,o.dst=some i->i<nt){asks:List Bool}{e:Eff}
  (h:opN T s o= .ret asks e) (ha:∀b∈asks,b=true) (hf:∀i,i<lenN e.new->¬C.used (s.n+i)):DL P B nt s C a o e:=by
 have v0:∀ {v:AV} {x:Value},e=⟨v,[],[]⟩->(execOp a.eval o).run P C.w= .ok (.value x) C.w->TR C v x->DL P B nt s C a o e:=by
  rintro v x rfl hr ht
  exact⟨_,x,_,C,hr,.inl rfl,sC hI hA hd ht⟩
 have v1:∀ {x:Value} {w':World} {C':Cx},(execOp a.eval o).run P C.w= .ok (.value x) w'->Post1 B nt s C e o.dst (a.put o.dst x) w' C'->DL P B nt s C a o e:=
  fun hr hp=>⟨_,_,_,_,hr,.inl rfl,hp⟩
 have v2:∀ {w':World} {C':Cx},(execOp a.eval o).run P C.w= .ok .skip w'->Post1 B nt s C e o.dst (a.put o.dst undef) w' C'->DL P B nt s C a o e:=
  fun hr hp=>⟨_,undef,_,_,hr,.inr ⟨rfl,rfl⟩,hp⟩
 have eta:∀ {e:Eff},e.upd=[]->e.new=[]->e=⟨e.v,[],[]⟩:=fun {e} h1 h2=>by cases e;simp_all
 obtain⟨dst,op,ty,pos,after,guard⟩:=o
 dsimp only at*
 cases op with
 |move x=>obtain⟨rfl,rfl⟩:=bP h;exact v0 rfl (by simp[execOp]) (gp hA x)
 |assign x=>obtain⟨rfl,rfl⟩:=bP h;exact v0 rfl (by simp[execOp]) (gp hA x)
 |pick c x y=>
  obtain⟨v,he,b,hc,hv⟩:=Em (gp hA c) (gp hA x) (gp hA y) h
  exact v0 he (by simp[execOp,hc,asBool]) hv
 |alloc t=>
  obtain⟨x,w',C',hr,hp⟩:=AY hT hI hA hd h hf
  exact v1 (by simp only[execOp,Sem.run_bind,hr,Result.andThen_ok,Sem.run_pure]) hp
 |box t x=>
  obtain⟨u,w',C',hr,hp⟩:=Fo (P:=P) (t:=t) hI hA hd (gp hA x) h hf
  exact v1 (by simp only[execOp,Sem.run_bind,hr,Result.andThen_ok,Sem.run_pure]) hp
 |build t ps=>
  obtain⟨v,he,x,hr,hv⟩:=A3 hT hA h
  exact v0 he (by simp only[execOp,Sem.run_bind,hr,Result.andThen_ok,Sem.run_pure]) hv
 |buildSlice t n ps=>
  obtain⟨x,w',C',hr,hp⟩:=uf hT hI hA hd h hf
  exact v1 (by simp only[execOp,Sem.run_bind,hr,Result.andThen_ok,Sem.run_pure]) hp
 |load t x=>
  obtain⟨_,h2,h3,x,hr,hv⟩:=xd hT hI (gp hA x) h
  exact v0 (eta h2 h3) (by simp only[execOp,Sem.run_bind,hr,Result.andThen_ok,Sem.run_pure]) hv
 |store t x y=>
  obtain⟨_,_,w',C',hr,hp⟩:=Cn hT hI hA hd (gp hA x) (gp hA y) h
  exact v2 (by simp only[execOp,Sem.run_bind,hr,Result.andThen_ok,Sem.run_pure]) hp
 |nilCheck x=>
  obtain⟨he,hx⟩:=GH (gp hA x) h
  refine v0 (x:=a.eval x) he ?_ (gp hA x)
  rcases hx with ⟨p,hx⟩|⟨f,b,c,hx⟩<;>simp[execOp,hx]
 |binOp op t x y p=>
  obtain⟨v,he,u,hr,hv⟩:=Fl (ox:=x) hT hQ (gp hA x) (gp hA y) h ha
  exact v0 he (by simp only[execOp,Sem.run_bind,hr,Result.andThen_ok,Sem.run_pure]) hv
 |unOp op t x=>
  obtain⟨v,he,u,hr,hv⟩:=JW (P:=P) (gp hA x) h
  exact v0 he (by simp only[execOp,Sem.run_bind,hr,Result.andThen_ok,Sem.run_pure]) hv
 |convert src dst x=>
  obtain⟨x,w',C',hr,hp⟩:=DU hT hI hA hd (gp hA x) h hf
  exact v1 (by simp only[execOp,Sem.run_bind,hr,Result.andThen_ok,Sem.run_pure]) hp
 |makeFunc fn f c=>
  obtain⟨v,he,hv⟩:=wy hA h
  have e1:∀(l:Array Operand),(l.toList.map a.eval).toArray=l.map a.eval:=fun l=>by apply Array.ext';simp
  rw[e1,e1]at hv
  exact v0 he (by simp only[execOp,Instr.makeFunc,Sem.run_bind,Result.andThen_ok,Sem.run_pure]) hv
 |makeMap t r=>
  cases r with
  |none=>
   obtain⟨x,w',C',hr,hp⟩:=yD (P:=P) hI hA hd h hf
   exact v1 (by simp only[execOp,Option.map_none,Sem.run_bind,hr,Result.andThen_ok,Sem.run_pure]) hp
  |some r=>cases h
 |insert t m k x=>
  obtain⟨_,_,w',C',hr,hp⟩:=t9 hT hI hA hd (gp hA m) (gp hA k) (gp hA x) h
  exact v2 (by simp only[execOp,Sem.run_bind,hr,Result.andThen_ok,Sem.run_pure]) hp
 |mapUpdate t m k x=>
  obtain⟨_,_,w',C',hr,hp⟩:=t9 hT hI hA hd (gp hA m) (gp hA k) (gp hA x) h
  exact v2 (by simp only[execOp,Sem.run_bind,hr,Result.andThen_ok,Sem.run_pure]) hp
 |lookup t m k ok=>
  obtain⟨_,h2,h3,x,hr,hv⟩:=Ed hT hI (gp hA m) (gp hA k) h
  exact v0 (eta h2 h3) (by simp only[execOp,Sem.run_bind,hr,Result.andThen_ok,Sem.run_pure]) hv
 |makeSlice t l c=>
  obtain⟨x,w',C',hr,hp⟩:=Ee hT hI hA hd (gp hA l) (gp hA c) h ha hf
  exact v1 (by simp only[execOp,Sem.run_bind,hr,Result.andThen_ok,Sem.run_pure]) hp
 |slice t x lo hi mx=>
  obtain⟨v,he,u,hr,hv⟩:=Ci hT hI (gp hA x) (Ku hA lo) (Ku hA hi) (vmx:=mx.map a.eval) (fun g=>by simpa using g) h ha
  exact v0 he (by simp only[execOp,Sem.run_bind,hr,Result.andThen_ok,Sem.run_pure]) hv
 |fieldAddr t x f=>
  obtain⟨_,v,he,u,hr,hv⟩:=Bk hT (gp hA x) h
  exact v0 he (by simp only[execOp,Sem.run_bind,hr,Result.andThen_ok,Sem.run_pure]) hv
 |indexAddr t x i=>
  obtain⟨v,he,u,hr,hv⟩:=Bu hT hI (gp hA x) (gp hA i) h ha
  exact v0 he (by simp only[execOp,Sem.run_bind,hr,Result.andThen_ok,Sem.run_pure]) hv
 |index t x i=>
  obtain⟨v,he,u,hr,hv⟩:=F6 hT (gp hA x) (gp hA i) h ha
  exact v0 he (by simp only[execOp,Sem.run_bind,hr,Result.andThen_ok,Sem.run_pure]) hv
 |extract x i=>
  obtain⟨v,he,u,hr,hv⟩:=yd (P:=P) (gp hA x) h
  exact v0 he (by simp only[execOp,Sem.run_bind,hr,Result.andThen_ok,Sem.run_pure]) hv
 |call c=>
  obtain⟨callee,args,argTypes⟩:=c
  have hargs:=FK hA args.toList
  have e1:(List.map a.eval args.toList).toArray=Array.map a.eval args:=by apply Array.ext';simp
  cases callee with
  |builtin b=>
   cases b with
   |len=>
    obtain⟨v,he,u,hr,hv⟩:=Gn hT hI hargs ty h
    rw[e1]at hr
    exact v0 he (by simp only[execOp,resolve,invoke,builtin,Sem.run_bind,Sem.run_pure,Result.andThen_ok,hr]) hv
   |append=>
    have key:∀xs vs,jw (TR C) xs vs->appC T s argTypes.toList xs= .ret asks e->∃u w' C',(Builtin.append_ argTypes.toList.toArray ty vs.toArray).run P C.w= .ok u w'/\Post1 B nt s C e dst (a.put dst u) w' C':=by
     intro xs vs hx h
     unfold appC at h
     split at h
     ·rename_i x y
      match vs,hx with
      |[xv,yv],hx=>exact zl hT hI hA hd hx.1 hx.2.1 ty h ha hf
     ·cases h
    obtain⟨u,w',C',hr,hp⟩:=key _ _ hargs h
    rw[e1]at hr
    exact v1 (by simp only[execOp,resolve,invoke,builtin,Sem.run_bind,Sem.run_pure,Result.andThen_ok,hr]) hp
   |clear=>
    obtain⟨u,w',C',hr,hp⟩:=A7 hT hI hA hd hargs ty h ha
    rw[e1]at hr
    exact v1 (by simp only[execOp,resolve,invoke,builtin,Sem.run_bind,Sem.run_pure,Result.andThen_ok,hr]) hp
   |min=>
    obtain⟨j,x,y,he,hv⟩:=C9 hargs h
    have hv':Array.map a.eval args= #[.int j x,.int j y]:=by
     apply Array.ext';simpa using hv
    refine v0 (x:= .int j (jp x y)) he ?_ rfl
    simp only[execOp,resolve,invoke,builtin,Sem.run_bind,Sem.run_pure,Result.andThen_ok,hv',run_min_int2]
    rfl
   |max=>
    obtain⟨j,x,y,he,hv⟩:=C9 hargs h
    have hv':Array.map a.eval args= #[.int j x,.int j y]:=by
     apply Array.ext';simpa using hv
    refine v0 (x:= .int j (F7 x y)) he ?_ rfl
    simp only[execOp,resolve,invoke,builtin,Sem.run_bind,Sem.run_pure,Result.andThen_ok,hv',run_max_int2]
    rfl
   |_=>cases h
  |invoke r n=>cases h
  |value f=>cases h
 |_=>cases h
end
end Go.Den
namespace Go.Den
structure Mv (σ:Nat->Option Nat)(blk:Nat->Blk)(C C':Cx):Prop where
 w:C'.w=C.w
 ok:∀c,C.ok c->C'.ok c
 loc:∀b i,σ b=some i->C.used b->C'.loc i=C.loc b
 used:∀b i,σ b=some i->C.used b->C'.used i
 row:∀b i,σ b=some i->C.used b->∀t ys g,C'.blk i= .row t ys g->∃xs f,C.blk b= .row t xs f/\xs.length=ys.length
 rowA:∀b i,σ b=some i->C.used b->∀ds,C'.blk i= .rowA ds->∃cs,C.blk b= .rowA cs/\cs.length=ds.length
 snap:∀b,σ b=none->C.used b->∀t xs f,blk b= .row t xs f->C.blk b= .row t xs f/\∀c,C.loc b=some c->C'.ok c
 us:∀b c,C.loc b=some c->C.used b
 br:∀b,BR C b (C.blk b)
section
variable {σ:Nat->Option Nat}{blk:Nat->Blk}{C C':Cx}
theorem HJ.mv (hM:Mv σ blk C C'){t:Tag}{xs:List (El t)}{c o:Nat}(h:HJ (R1 C.w C.ok) C.w C.ok t xs c o):HJ (R1 C'.w C'.ok) C'.w C'.ok t xs c o:=by
 refine⟨hM.ok c h.1,fun i x hx j a ha=>?_⟩
 obtain⟨v,hv,hr⟩:=h.2 i x hx j a ha
 refine⟨v,by rw[hM.w];exact hv,?_⟩
 rcases hr with hr|⟨t',ys,rfl,ad,cap,rfl,hc,hr⟩
 ·exact .inl hr
 ·refine .inr ⟨t',ys,rfl,ad,cap,rfl,hc,?_⟩
  rcases hr with rfl|⟨c',o',rfl,h1,h2⟩
  ·exact .inl rfl
  ·exact .inr ⟨c',o',rfl,hM.ok c' h1,by rw[hM.w];exact h2⟩
theorem R1.mv (hM:Mv σ blk C C'){a:AV}{v:Value}(h:R1 C.w C.ok a v):R1 C'.w C'.ok a v:=by
 rcases h with hr|⟨t',ys,rfl,ad,cap,rfl,hc,hr⟩
 ·exact .inl hr
 ·refine .inr ⟨t',ys,rfl,ad,cap,rfl,hc,?_⟩
  rcases hr with rfl|⟨c',o',rfl,h1,h2⟩
  ·exact .inl rfl
  ·exact .inr ⟨c',o',rfl,hM.ok c' h1,by rw[hM.w];exact h2⟩
theorem nN.mv (hM:Mv σ blk C C'){t:Tag}{xs:List (El t)}{v:Value}(h:nN (R1 C.w C.ok) C.w C.ok t xs v):nN (R1 C'.w C'.ok) C'.w C'.ok t xs v:=by
 obtain⟨ad,cap,rfl,hc,hr⟩:=h
 refine⟨ad,cap,rfl,hc,?_⟩
 rcases hr with rfl|⟨c,o,rfl,h⟩
 ·exact .inl rfl
 ·exact .inr ⟨c,o,rfl,h.mv hM⟩
theorem VP.mv (hM:Mv σ blk C C'){a:AV}{v:Value}(h:VP C a v):VP C' (ren σ blk a) v:=by
 cases a with
 |anyb=>exact h
 |ptr b o=>
  obtain⟨c,hc,rfl⟩:=h
  simp only[ren]
  split
  ·rename_i i hi
   exact⟨c,(hM.loc b i hi (hM.us b c hc)).trans hc,rfl⟩
  ·trivial
 |ptrI b o n i=>
  obtain⟨c,hc,h0,h1,rfl⟩:=h
  simp only[ren]
  split
  ·rename_i j hj
   exact⟨c,(hM.loc b j hj (hM.us b c hc)).trans hc,h0,h1,rfl⟩
  ·trivial
 |ptrE b t i o=>
  obtain⟨c,hc,hu,h0,rfl,h1⟩:=h
  simp only[ren]
  split
  ·rename_i j hj
   refine⟨c,(hM.loc b j hj hu).trans hc,hM.used b j hj hu,h0,rfl,fun t' ys g hg=>?_⟩
   obtain⟨xs,f,e1,e2⟩:=hM.row b j hj hu t' ys g hg
   rw[<-e2]
   exact h1 t' xs f e1
  ·trivial
 |mapr b=>
  obtain⟨c,hc,rfl⟩:=h
  simp only[ren]
  split
  ·rename_i i hi
   exact⟨c,(hM.loc b i hi (hM.us b c hc)).trans hc,rfl⟩
  ·trivial
 |vec b=>
  obtain⟨hu,⟨ad,n,cp,hv⟩,h⟩:=h
  simp only[ren]
  split
  ·rename_i i hi
   refine⟨hM.used b i hi hu,⟨ad,n,cp,hv⟩,?_⟩
   split
   ·rename_i t ys g hg
    obtain⟨xs,f,e1,e2⟩:=hM.row b i hi hu t ys g hg
    rw[e1]at h
    dsimp only at h
    rw[hM.loc b i hi hu]
    cases hc:C.loc b with
    |none=>rw[hc]at h;exact⟨h.1,ly (by rw[<-e2,h.2];rfl)⟩
    |some c=>
     rw[hc]at h
     obtain⟨cap,T,m,h1,h2,h3,h4⟩:=h
     exact⟨cap,T,m,by rw[<-e2];exact h1,by omega,by rw[hM.w];exact h3,h4⟩
   ·rename_i ds hg
    obtain⟨cs,e1,e2⟩:=hM.rowA b i hi hu ds hg
    rw[e1]at h
    obtain⟨c,hc,h⟩:=h
    exact⟨c,(hM.loc b i hi hu).trans hc,by rw[<-e2];exact h⟩
   ·trivial
  ·rename_i hs
   split
   ·rename_i t xs f hb
    obtain⟨hb,hok⟩:=hM.snap b hs hu t xs f hb
    rw[hb]at h
    dsimp only at h
    have hbr:=hM.br b
    rw[hb]at hbr
    cases hc:C.loc b with
    |none=>rw[hc]at h;obtain⟨rfl,rfl⟩:=h;exact⟨none,0,rfl,bV _,.inl rfl⟩
    |some c=>
     rw[hc]at h
     obtain⟨cap,T,m,rfl,h2,h3,h4⟩:=h
     refine⟨_,cap,rfl,h2,.inr ⟨c,0,rfl,hok c hc,fun i x hx j a ha=>?_⟩⟩
     simp only[BR,hc]at hbr
     obtain⟨arr,T',fr,hh,⟨_,hr⟩,_⟩:=hbr
     obtain⟨v,hv,hrr⟩:=hr i x hx j a ha
     exact⟨v,by rw[hM.w];simp[World.cell?,hh,hv],R1.mv hM hrr⟩
   ·trivial
 |suf b m=>
  obtain⟨hu,⟨ad,n,cp,hv⟩,hm,h⟩:=h
  simp only[ren]
  split
  ·rename_i i hi
   refine⟨hM.used b i hi hu,⟨ad,n,cp,hv⟩,hm,?_⟩
   split
   ·rename_i t ys g hg
    obtain⟨xs,f,e1,e2⟩:=hM.row b i hi hu t ys g hg
    rw[e1]at h
    dsimp only at h
    rw[hM.loc b i hi hu,<-e2]
    exact h
   ·trivial
  ·trivial
 |pre b m=>
  obtain⟨hu,⟨ad,n,cp,hv⟩,hm,h⟩:=h
  simp only[ren]
  split
  ·rename_i i hi
   refine⟨hM.used b i hi hu,⟨ad,n,cp,hv⟩,hm,?_⟩
   split
   ·rename_i t ys g hg
    obtain⟨xs,f,e1,e2⟩:=hM.row b i hi hu t ys g hg
    rw[e1]at h
    dsimp only at h
    rw[hM.loc b i hi hu,<-e2]
    exact h
   ·rename_i ds hg
    obtain⟨cs,e1,e2⟩:=hM.rowA b i hi hu ds hg
    rw[e1]at h
    obtain⟨h1,c,cap,hc,h⟩:=h
    exact⟨by rw[<-e2];exact h1,c,cap,(hM.loc b i hi hu).trans hc,h⟩
   ·trivial
  ·rename_i hs
   split
   ·rename_i t xs f hb
    obtain⟨hb,hok⟩:=hM.snap b hs hu t xs f hb
    rw[hb]at h
    dsimp only at h
    have hbr:=hM.br b
    rw[hb]at hbr
    obtain⟨hmx,h⟩:=h
    have hlt:(k9 xs m).length=m.toNat:=by unfold k9;rw[ge];omega
    cases hc:C.loc b with
    |none=>rw[hc]at h;obtain⟨rfl,rfl⟩:=h;exact⟨none,0,by rw[hlt];rfl,by rw[hlt];exact bV _,.inl (by simp[k9])⟩
    |some c=>
     rw[hc]at h
     obtain⟨cap,rfl,h2⟩:=h
     refine⟨_,cap,by rw[hlt],by rw[hlt];exact h2,.inr ⟨c,0,rfl,hok c hc,fun i x hx j a ha=>?_⟩⟩
     simp only[BR,hc]at hbr
     obtain⟨arr,T',fr,hh,⟨_,hr⟩,_⟩:=hbr
     have hx':xs[i]? =some x:=by
      unfold k9 at hx
      rw[mw]at hx
      split at hx
      ·exact hx
      ·cases hx
     obtain⟨v,hv,hrr⟩:=hr i x hx' j a ha
     exact⟨v,by rw[hM.w];simp[World.cell?,hh,hv],R1.mv hM hrr⟩
   ·trivial
 |ptrL t xs i o=>
  obtain⟨c,o',h0,h1,hr,rfl⟩:=h
  exact⟨c,o',h0,h1,hr.mv hM,rfl⟩
 |list t xs=>exact nN.mv hM h
 |bool b=>exact h
 |int k n=>exact h
 |str l=>exact h
 |nilp=>exact h
 |nils=>exact h
 |nilf=>exact h
 |err b=>cases b<;>exact h
 |dead=>trivial
 |arr=>exact h.elim
 |func=>exact h.elim
 |agg=>exact h.elim
 |tup=>exact h.elim
theorem jw.mv (hM:Mv σ blk C C'):∀ {as:List AV} {vs:List Value},jw (VP C) as vs->jw (VP C') (wq σ blk as) vs
 |[],[],_=>trivial
 |[],_::_,h=>h.elim
 |_::_,[],h=>h.elim
 |_::_,_::_,h=>⟨VP.mv hM h.1,jw.mv hM h.2⟩
theorem VR.mv (hM:Mv σ blk C C'){a:AV}{v:Value}(h:VR C a v):VR C' (ren σ blk a) v:=by
 have same:VP C a v->(∀fn f c,a≠ .func fn f c)->VR C' (ren σ blk a) v:=by
  intro h hn
  have:=VP.mv hM h
  cases hr:ren σ blk a<;>rw[hr]at this<;>first|exact this|exact this.elim
 cases a with
 |func fn f c=>
  obtain⟨f',c',rfl,h1,h2⟩:=h
  exact⟨f',c',rfl,h1.mv hM,h2.mv hM⟩
 |_=>exact same h (by simp)
theorem Aw (a:AV):(ren σ blk a).width=a.width:=by
 cases a with
 |ptr b o=>simp only[ren];cases σ b<;>rfl
 |ptrI b o n i=>simp only[ren];cases σ b<;>rfl
 |ptrE b t i o=>simp only[ren];cases σ b<;>rfl
 |mapr b=>simp only[ren];cases σ b<;>rfl
 |vec b=>
  simp only[ren]
  cases σ b with
  |some i=>rfl
  |none=>dsimp only;cases blk b<;>rfl
 |suf b n=>simp only[ren];cases σ b<;>rfl
 |pre b n=>
  simp only[ren]
  cases σ b with
  |some i=>rfl
  |none=>dsimp only;cases blk b<;>rfl
 |_=>rfl
theorem nT:∀(l:List AV),wq σ blk l=l.map (ren σ blk)
 |[]=>rfl
 |a::r=>by rw[wq,nT r];rfl
theorem gu (l:List AV):(wq σ blk l).map AV.width=l.map AV.width:=by
 rw[nT,List.map_map]
 exact List.map_congr_left fun a _=>Aw a
theorem ER.mv (hM:Mv σ blk C C'){a:AV}{g:Nat->Option Value}{o:Nat}(h:ER C a g o):ER C' (ren σ blk a) g o:=by
 have one:(∃v,g o=some v/\VR C a v)->ER C' (ren σ blk a) g o:=by
  rintro⟨v,hv,hr⟩
  have:=VR.mv hM hr
  exact(ER.of_one this.not_arr).2 ⟨v,hv,this⟩
 cases a with
 |arr t n xs=>exact h
 |_=>exact one h
theorem CR.mv (hM:Mv σ blk C C'){cs:List AV}{g:Nat->Option Value}(h:CR C cs g):CR C' (wq σ blk cs) g:=by
 intro i a ha
 rw[nT]at ha
 obtain⟨b,hb,rfl⟩:∃b,cs[i]? =some b/\ren σ blk b=a:=by simpa using ha
 rw[kK (gu cs)]
 exact ER.mv hM (h i b hb)
theorem TR1.mv (hM:Mv σ blk C C'){a:AV}{v:Value}(h:TR1 C a v):TR1 C' (ren σ blk a) v:=by
 have same:VR C a v->(∀cs,a≠ .agg cs)->TR1 C' (ren σ blk a) v:=by
  intro h hn
  have:=VR.mv hM h
  cases hr:ren σ blk a<;>rw[hr]at this<;>first|exact this|exact this.elim
 cases a with
 |agg cs=>
  obtain⟨l,rfl,h1,h2⟩:=h
  exact⟨l,rfl,by rw[iI (gu cs)];exact h1,h2.mv hM⟩
 |_=>exact same h (by simp)
theorem AllR1.mv (hM:Mv σ blk C C'):∀ {as:List AV} {vs:List Value},jw (TR1 C) as vs->jw (TR1 C') (wq σ blk as) vs
 |[],[],_=>trivial
 |[],_::_,h=>h.elim
 |_::_,[],h=>h.elim
 |_::_,_::_,h=>⟨TR1.mv hM h.1,AllR1.mv hM h.2⟩
theorem TR.mv (hM:Mv σ blk C C'){a:AV}{v:Value}(h:TR C a v):TR C' (ren σ blk a) v:=by
 have same:TR1 C a v->(∀cs,a≠ .tup cs)->TR C' (ren σ blk a) v:=fun h _=>TR.of1 (TR1.mv hM h)
 cases a with
 |tup vs=>
  obtain⟨l,rfl,h1⟩:=h
  exact⟨l,rfl,AllR1.mv hM h1⟩
 |_=>exact same h (by simp)
theorem AllT.mv (hM:Mv σ blk C C'):∀ {as:List AV} {vs:List Value},jw (TR C) as vs->jw (TR C') (wq σ blk as) vs
 |[],[],_=>trivial
 |[],_::_,h=>h.elim
 |_::_,[],h=>h.elim
 |_::_,_::_,h=>⟨TR.mv hM h.1,AllT.mv hM h.2⟩
theorem BR.mv (hM:Mv σ blk C C'){b i:Nat}(hl:C'.loc i=C.loc b){x:Blk}(h:BR C b x):BR C' i (nV σ blk x):=by
 cases x with
 |gone=>trivial
 |var cs=>
  obtain⟨c,arr,T,fr,h1,h2,h3,h4,h5⟩:=h
  exact⟨c,arr,T,fr,hl.trans h1,by rw[hM.w];exact h2,by rw[iI (gu cs)];exact h3,h4.mv hM,h5⟩
 |rowA cs=>
  obtain⟨c,arr,T,fr,h1,h2,h3,h4,h5⟩:=h
  exact⟨c,arr,T,fr,hl.trans h1,by rw[hM.w];exact h2,by rw[iI (gu cs)];exact h3,h4.mv hM,h5⟩
 |row t xs f=>
  simp only[nV,BR]at h|-
  rw[hl]
  cases hc:C.loc b with
  |none=>rw[hc]at h;exact h
  |some c=>
   rw[hc]at h
   obtain⟨arr,T,fr,h1,⟨h2,h3⟩,h4⟩:=h
   refine⟨arr,T,fr,by rw[hM.w];exact h1,⟨h2,fun i x hx j a ha=>?_⟩,h4⟩
   obtain⟨v,hv,hr⟩:=h3 i x hx j a ha
   exact⟨v,hv,R1.mv hM hr⟩
 |map t es=>
  obtain⟨c,ms,k,h1,h2,h3⟩:=h
  exact⟨c,ms,k,hl.trans h1,by rw[hM.w];exact h2,h3⟩
theorem nf {x:Blk}:nV σ blk x= .gone↔x= .gone:=by cases x<;>simp[nV]
theorem li {x:Blk}:wrt (nV σ blk x)=wrt x:=by
 cases x with
 |row t xs f=>rfl
 |_=>rfl
theorem uF {x:Blk}{t:Tag}{ys:List (El t)}{g:Bool}(h:nV σ blk x= .row t ys g):x= .row t ys g:=by
 cases x<;>simp[nV]at h|- <;>exact h
theorem sF {x:Blk}{ds:List AV}(h:nV σ blk x= .rowA ds):∃cs,x= .rowA cs/\cs.length=ds.length:=by
 cases x<;>simp[nV]at h
 subst h
 exact⟨_,rfl,by rw[nT];simp⟩
end
end Go.Den
namespace Go.Den
open Go.RowKit (Below)
def AH (hs:List Blk)(np:Nat)(wr:List (Nat×Nat×Nat)):St:={t:=[],h:=iM 0 hs [],n:=lenN hs,np:=np,al:=wr,w:=false}
structure Old (B:Bs)(C:Cx):Prop where
 keep:∀i,i<B.np->BK (B.hs0 i) (C.blk i) True
 cell:∀c o v,B.ok0 c->B.w0.cell? ⟨c,o,none⟩=some v->C.w.cell? ⟨c,o,none⟩=some v
 ok:∀c,B.ok0 c->C.ok c
def lT (C:Cx)(np:Nat)(wr:List (Nat×Nat×Nat)):Bs:=⟨C.w,np,C.loc,C.ok,C.blk,wr⟩
def AT (P:Program)(g:FuncId)(args:Array Value)(w:World)(R:Value->World->Prop):Prop:=
 ∀(o:Oper) (a:Act) (next:Act->World->Prop) (Q:Exit->Act->World->Prop),(∀x w',R x w'->next (a.put o.dst x) w')->o.upon P a next Q ((callFunc g args).run P w)
abbrev Lay:=List (Nat×(Array Value->Prop))
def Lay.has (g:Nat)(p:Array Value->Prop)(w:World):Prop:=∃cs,p cs/\(∃T,w.shape? g=some (T,cs.size))/\∀o v,cs[o]? =some v->w.cell? ⟨g,o,none⟩=some v
theorem Lay.has.mono {g:Nat}{p:Array Value->Prop}{w w':World}(h:Lay.has g p w)(hs:∀x,w.shape? g=some x->w'.shape? g=some x)(hc:∀o v,w.cell? ⟨g,o,none⟩=some v->w'.cell? ⟨g,o,none⟩=some v):Lay.has g p w':=by
 obtain⟨cs,h1,⟨T,h2⟩,h3⟩:=h
 exact⟨cs,h1,⟨T,hs _ h2⟩,fun o v hv=>hc o v (h3 o v hv)⟩
def Lay.In (L:Lay)(w:World)(ok:Nat->Prop):Prop:=∀x∈L,ok x.1/\Lay.has x.1 x.2 w
def uS (P:Program)(L:Lay)(g:FuncId)(m:Sem1):Prop:=
 ∀(C:Cx) (args:List AV) (hs:List Blk) (cargs:Array Value),(∀i,C.used i↔i<hs.length)->L.In C.w C.ok->Inv (lT C hs.length m.wr) (AH hs hs.length m.wr) C->jw (TR C) args cargs.toList->
  ∀(α:Type) k (ans:α),m.run α args hs k=some ans->
   AT P g cargs C.w fun x w'=>∃r hs' C',k r hs'=some ans/\C'.w=w'/\Inv (lT C hs.length m.wr) (AH hs' hs.length m.wr) C'/\Old (lT C hs.length m.wr) C'/\(∀i,C'.used i->i<hs'.length)/\TR C' r x
theorem jr:∀(n:Nat) (bs:List Blk) (h:List (Nat×Blk)) (k:Nat),look (iM n bs h) k=if n<=k/\k<n+bs.length then bs[k-n]? else look h k
 |n,[],h,k=>by rw[ae (by simp only[kA];omega)];rfl
 |n,b::bs,h,k=>by
  rw[iM,jr (n+1) bs _ k]
  by_cases e:k=n
  ·subst e
   rw[ae (by omega),look_cons,aa rfl,aa (by simp)]
   simp
  ·by_cases g:n+1<=k/\k<n+1+bs.length
   ·rw[aa g,aa (by simp only[fa];omega)]
    rw[show k-n=(k-(n+1))+1 by omega];simp
   ·rw[ae g,look_cons,ae (fun h=>e h.symm),ae (by simp only[fa];omega)]
theorem jZ (hs:List Blk)(np:Nat)(wr:List (Nat×Nat×Nat))(i:Nat):(AH hs np wr).blk i=(hs[i]?).getD .gone:=by
 simp only[AH,St.blk,jr]
 by_cases h:i<hs.length
 ·rw[aa (by omega)];simp[h]
 ·rw[ae (by omega)];simp[look,h]
theorem jn:∀ {l:List Nat} {b:Nat},sM l b=true↔b∈l
 |[],b=>by simp[sM]
 |a::r,b=>by
  simp only[sM]
  by_cases h:a=b
  ·subst h;simp
  ·rw[Fj.2 h,aN]
   simp only[jn (l:=r)]
   exact⟨.inr,fun g=>g.elim (fun e=>ah e.symm h) id⟩
theorem zN:∀ {l:List Nat} {b n i:Nat},oS l b n=some i->n<=i/\l[i-n]? =some b
 |[],b,n,i,h=>by cases h
 |a::r,b,n,i,h=>by
  simp only[oS]at h
  split at h
  ·rename_i e
   obtain rfl:=aw h
   exact⟨bV _,by simp[j4.1 e]⟩
  ·obtain⟨h1,h2⟩:=zN h
   exact⟨by omega,by rw[show i-n=(i-(n+1))+1 by omega];simpa using h2⟩
theorem zL:∀ {l:List Nat} {b n:Nat},oS l b n=none->b∉l
 |[],b,n,_=>by simp
 |a::r,b,n,h=>by
  simp only[oS]at h
  split at h
  ·cases h
  ·rename_i e
   have:=zL h
   simp only[aN,not_or]
   exact⟨fun g=>by rw[g]at e;exact ah (j4.2 rfl) (by rw[e];simp),this⟩
theorem pG {keep:List Nat}{b i:Nat}(h:oS keep b 0=some i):keep[i]? =some b:=by simpa using (zN h).2
theorem rP {blk:Nat->Blk}:∀ {l:List Nat},vR blk l=true->(∀b∈l,blk b≠ .gone)/\l.Nodup
 |[],_=>by simp
 |b::r,h=>by
  simp only[vR,ar,ef]at h
  obtain⟨h1,h2,h3⟩:=h
  obtain⟨h4,h5⟩:=rP h3
  refine⟨fun c hc=>?_,mA.2 ⟨fun hm=>?_,h5⟩⟩
  ·rcases aN.1 hc with rfl|hc
   ·intro e;rw[e]at h1;cases h1
   ·exact h4 c hc
  ·rw[jn.2 hm]at h2;cases h2
theorem pb {keep:List Nat}:∀ {l:List Nat} {b:Nat},b∈kH keep l->b∉keep
 |[],b,h=>by simp[kH]at h
 |a::r,b,h=>by
  simp only[kH]at h
  split at h
  ·exact pb h
  ·rename_i e
   split at h
   ·exact pb h
   ·rcases aN.1 h with rfl|h
    ·intro hm;rw[jn.2 hm]at e;cases e
    ·exact pb h
theorem nG {keep:List Nat}:∀ {l:List Nat},(kH keep l).Nodup
 |[]=>by simp[kH]
 |a::r=>by
  simp only[kH]
  split
  ·exact nG
  ·split
   ·exact nG
   ·rename_i e
    exact mA.2 ⟨fun hm=>(by rw[jn.2 hm]at e;cases e),nG⟩
theorem so {l:List Nat}(h:l.Nodup){i j b:Nat}(hi:l[i]? =some b)(hj:l[j]? =some b):i=j:=by
 obtain⟨h1,h2⟩:=bj.1 hi
 obtain⟨h3,h4⟩:=bj.1 hj
 exact(List.getElem_inj h).1 (h2.trans h4.symm)
def cD (C:Cx)(keep S:List Nat):Cx where
 w:=C.w
 loc:=fun i=>(keep[i]?).bind C.loc
 blk:=fun i=>match keep[i]? with
  |some b=>nV (oS keep · 0) (kP S C.blk) (C.blk b)
  |none=> .gone
 ok:=fun c=>C.ok c\/∃b,b∈S/\(∃t xs f,C.blk b= .row t xs f)/\C.loc b=some c
 used:=fun i=>i<keep.length
section
variable {B:Bs}{s:St}{C:Cx}
theorem m5 {σ:Nat->Option Nat}{blkS blk:Nat->Blk}:∀(keep:List Nat) (i:Nat),(gx σ blkS blk keep)[i]? =(keep[i]?).map fun b=>nV σ blkS (blk b)
 |[],i=>by simp[gx]
 |b::r,0=>by simp[gx]
 |b::r,i+1=>by simp[gx,m5 r i]
theorem zq (hI:Inv B s C){keep S:List Nat}:Mv (oS keep · 0) (kP S C.blk) C (cD C keep S) where
 w:=rfl
 ok c h:= .inl h
 loc b i h _:=by simp[cD,pG h]
 used b i h _:=(bj.1 (pG h)).1
 row b i h _ t ys g hg:=by
  simp only[cD,pG h]at hg
  exact⟨ys,g,uF hg,rfl⟩
 rowA b i h _ ds hg:=by
  simp only[cD,pG h]at hg
  exact sF hg
 snap b _ _ t xs f hb:=by
  simp only[kP]at hb
  split at hb
  ·rename_i hm
   exact⟨hb,fun c hc=> .inr ⟨b,jn.1 hm,⟨t,xs,f,hb⟩,hc⟩⟩
  ·cases hb
 us b c h:=lc hI h
 br b:=by rw[hI.eqb];exact hI.bl b
theorem DR (hI:Inv B s C){keep S:List Nat}(hk:∀b∈keep,s.blk b≠ .gone)(hn:keep.Nodup)(hS:∀b∈S,b∉keep)(wr:List (Nat×Nat×Nat)){s0:St}
  (hb:∀i,s0.blk i=(cD C keep S).blk i) (hnp:s0.np=keep.length) (hal:s0.al=wr):Inv (lT (cD C keep S) keep.length wr) s0 (cD C keep S):=by
 have hM:=zq (keep:=keep) (S:=S) hI
 have hloc:∀i b,keep[i]? =some b->(cD C keep S).loc i=C.loc b:=fun i b h=>by simp[cD,h]
 have hgone:∀i,s0.blk i≠ .gone->∃b,keep[i]? =some b/\s0.blk i=nV (oS keep · 0) (kP S C.blk) (C.blk b):=fun i h=>by
  rw[hb]at h|-
  simp only[cD]at h|-
  split at h
  ·rename_i b hb'
   exact⟨b,hb',rfl⟩
  ·exact ah rfl h
 have hkC:∀b∈keep,C.blk b≠ .gone:=fun b h=>by rw[hI.eqb];exact hk b h
 have hlocs:∀i c,(cD C keep S).loc i=some c->∃b,keep[i]? =some b/\C.loc b=some c:=fun i c h=>by
  simp only[cD]at h
  cases hki:keep[i]? with
  |none=>rw[hki]at h;cases h
  |some b=>rw[hki]at h;exact⟨b,rfl,h⟩
 refine {eqb:=fun i=>(hb i).symm,bl:=fun i=>?_,inj:=fun i j c hi hj h1 h2=>?_,lt:=fun i c h=>?_,us:=fun i hu=>?_,okd:=fun c hc=>?_,okS:=fun c hc=> .inl hc,own:=fun i c hi h=>?_,lt0:=fun i c hi h=>?_,inj0:=fun i j c hi hj h1 h2=>?_,pas:=fun i hi=>rfl,pus:=fun i hi=>hi,frm:=⟨Below.refl _ _,fun _ _ _=>rfl⟩,prt:=fun i hi c hc o hm=>rfl,prt2:=fun i hi c hc hm=>rfl,stay:=fun i hi hm=>?_,shp:=fun _ _ h=>h,wid:=fun i hi=>?_,npn:=hnp,all:=hal}
 ·by_cases g:s0.blk i= .gone
  ·rw[g];trivial
  ·obtain⟨b,h1,h2⟩:=hgone i g
   rw[h2]
   exact BR.mv hM (hloc i b h1) (by rw[hI.eqb];exact hI.bl b)
 ·obtain⟨b,e1,e2⟩:=hlocs i c h1
  obtain⟨b',g1,g2⟩:=hlocs j c h2
  obtain rfl:=hI.inj b b' c (hk b (cw e1)) (hk b' (cw g1)) e2 g2
  exact so hn e1 g1
 ·obtain⟨b,e1,e2⟩:=hlocs i c h
  exact hI.lt b c e2
 ·have:keep[i]? =none:=by rw[px];simpa[cD]using hu
  rw[hb]
  simp[cD,this]
 ·rcases hc with hc|⟨b,hbS,⟨t,xs,f,hbr⟩,hl⟩
  ·obtain⟨h1,h2⟩:=hI.okd c hc
   refine⟨h1,fun i hi h=>?_⟩
   obtain⟨b,e1,e2⟩:=hlocs i c h
   obtain⟨b',g1,g2⟩:=hgone i (fun e=>by rw[e]at hi;cases hi)
   rw[e1]at g1;cases g1
   rw[g2,li,hI.eqb]at hi
   exact h2 b hi e2
  ·refine⟨hI.lt b c hl,fun i hi h=>?_⟩
   obtain⟨b',e1,e2⟩:=hlocs i c h
   have hm:=cw e1
   have:b=b':=hI.inj b b' c (by rw[<-hI.eqb,hbr];simp) (hk b' hm) hl e2
   exact hS b hbS (this▸hm)
 ·have hi':i<keep.length:=by
   obtain⟨b,e1,_⟩:=hlocs i c h
   exact(bj.1 e1).1
  exact .inl ⟨i,hi',h,.inl rfl⟩
 ·obtain⟨b,e1,e2⟩:=hlocs i c h
  exact hI.lt b c e2
 ·obtain⟨b,e1,e2⟩:=hlocs i c h1
  obtain⟨b',g1,g2⟩:=hlocs j c h2
  obtain rfl:=hI.inj b b' c (hk b (cw e1)) (hk b' (cw g1)) e2 g2
  exact so hn e1 g1
 ·rw[hb];exact⟨id,id⟩
 ·rw[hb]
  exact⟨fun cs h=>⟨cs,h,rfl⟩,fun ds h=>⟨ds,h⟩⟩
end
end Go.Den
namespace Go.Den
open Go.RowKit (Below)
section
variable {C:Cx}
def Cx.okBy (C:Cx)(K:Nat->Prop):Cx:={C with ok:=K}
theorem VP.nl {K:Nat->Prop}{a:AV}{v:Value}(h:VP C a v)(hn:nI a=true):VP (C.okBy K) a v:=by
 cases a with
 |list=>simp[nI]at hn
 |ptrL=>simp[nI]at hn
 |err b=>cases b<;>exact h
 |_=>exact h
theorem jw.nl {K:Nat->Prop}:∀ {as:List AV} {vs:List Value},jw (VP C) as vs->kZ as=true->jw (VP (C.okBy K)) as vs
 |[],[],_,_=>trivial
 |[],_::_,h,_=>h.elim
 |_::_,[],h,_=>h.elim
 |_::_,_::_,h,hn=>by
  simp only[kZ,ar]at hn
  exact⟨VP.nl h.1 hn.1,jw.nl h.2 hn.2⟩
theorem VR.nl {K:Nat->Prop}{a:AV}{v:Value}(h:VR C a v)(hn:nI a=true):VR (C.okBy K) a v:=by
 cases a with
 |func fn f c=>
  simp only[nI,ar]at hn
  obtain⟨f',c',rfl,h1,h2⟩:=h
  exact⟨f',c',rfl,h1.nl hn.1,h2.nl hn.2⟩
 |_=>simp only[VR]at h|-;exact VP.nl h hn
theorem ER.nl {K:Nat->Prop}{a:AV}{g:Nat->Option Value}{o:Nat}(h:ER C a g o)(hn:nI a=true):ER (C.okBy K) a g o:=by
 cases a with
 |arr t n xs=>exact h
 |_=>obtain⟨v,hv,hr⟩:=h;exact⟨v,hv,VR.nl hr hn⟩
theorem xk:∀ {cs:List AV},kZ cs=true->∀a∈cs,nI a=true
 |[],_,a,h=>by simp at h
 |c::cs,hn,a,h=>by
  simp only[kZ,ar]at hn
  rcases aN.1 h with rfl|h
  ·exact hn.1
  ·exact xk hn.2 a h
theorem CR.nl {K:Nat->Prop}{cs:List AV}{g:Nat->Option Value}(h:CR C cs g)(hn:kZ cs=true):CR (C.okBy K) cs g:=
 fun i a ha=>ER.nl (h i a ha) (xk hn a (cw ha))
theorem TR1.nl {K:Nat->Prop}{a:AV}{v:Value}(h:TR1 C a v)(hn:nI a=true):TR1 (C.okBy K) a v:=by
 cases a with
 |agg cs=>obtain⟨l,rfl,h1,h2⟩:=h;exact⟨l,rfl,h1,h2.nl (by simpa[nI]using hn)⟩
 |_=>simp only[TR1]at h|-;exact VR.nl h hn
theorem AllR1.nl {K:Nat->Prop}:∀ {as:List AV} {vs:List Value},jw (TR1 C) as vs->kZ as=true->jw (TR1 (C.okBy K)) as vs
 |[],[],_,_=>trivial
 |[],_::_,h,_=>h.elim
 |_::_,[],h,_=>h.elim
 |_::_,_::_,h,hn=>by
  simp only[kZ,ar]at hn
  exact⟨TR1.nl h.1 hn.1,AllR1.nl h.2 hn.2⟩
theorem TR.nl {K:Nat->Prop}{a:AV}{v:Value}(h:TR C a v)(hn:nI a=true):TR (C.okBy K) a v:=by
 cases a with
 |tup vs=>obtain⟨l,rfl,h1⟩:=h;exact⟨l,rfl,AllR1.nl h1 (by simpa[nI]using hn)⟩
 |_=>simp only[TR]at h|-;exact TR1.nl h hn
theorem BR.nl {K:Nat->Prop}{b:Nat}{x:Blk}(h:BR C b x)(hn:tE x=true):BR (C.okBy K) b x:=by
 cases x with
 |gone=>trivial
 |var cs=>
  obtain⟨c,arr,T,fr,h1,h2,h3,h4,h5⟩:=h
  exact⟨c,arr,T,fr,h1,h2,h3,h4.nl hn,h5⟩
 |rowA cs=>
  obtain⟨c,arr,T,fr,h1,h2,h3,h4,h5⟩:=h
  exact⟨c,arr,T,fr,h1,h2,h3,h4.nl hn,h5⟩
 |row t xs f=>
  have ht:t≠ .grp:=by rintro rfl;simp[tE]at hn
  simp only[BR]at h|-
  show match C.loc b with|none=>xs=[]|some c=>_
  cases hc:C.loc b with
  |none=>rw[hc]at h;exact h
  |some c=>
   rw[hc]at h
   obtain⟨arr,T,fr,h1,⟨h2,h3⟩,h4⟩:=h
   refine⟨arr,T,fr,h1,⟨h2,fun i x hx j a ha=>?_⟩,h4⟩
   obtain⟨v,hv,hr⟩:=h3 i x hx j a ha
   exact⟨v,hv,.inl (R0.of_R1 (qM ht x a (cw ha)) hr)⟩
 |map t es=>simp[tE]at hn
theorem vM:∀ {hs:List Blk},qT hs=true->∀(i:Nat),tE ((hs[i]?).getD .gone)=true
 |[],_,i=>by simp[tE]
 |b::r,h,0=>by simp only[qT,ar]at h;simpa using h.1
 |b::r,h,i+1=>by simp only[qT,ar]at h;simpa using vM h.2 i
end
theorem ET {x y:Blk}{l:Prop}(h:BK x y l)(hy:wrt y=true):wrt x=true:=by
 cases x with
 |gone=>rw[show y= .gone from h]at hy;cases hy
 |row t xs f=>
  cases f with
  |false=>rfl
  |true=>
   rcases(show y= .gone\/(l/\∃ys g,y= .row t ys g/\ys.length=xs.length/\(true=true->g=true))from h)with rfl|⟨_,ys,g,rfl,_,hg⟩
   ·cases hy
   ·rw[hg rfl]at hy;cases hy
 |_=>rfl
theorem BK_gone {x y:Blk}{l:Prop}(h:BK x y l)(hy:y≠ .gone):x≠ .gone:=by
 rintro rfl
 exact hy h
theorem BK_ren {σ σ':Nat->Option Nat}{u v:Nat->Blk}{x y:Blk}{l:Prop}(h:BK (nV σ u x) y True)(hl:l):BK x (nV σ' v y) l:=by
 cases x with
 |gone=>rw[show y= .gone from h];exact rfl
 |var cs=>obtain⟨ds,rfl⟩:=(show∃ds,y= .var ds from h);exact⟨_,rfl⟩
 |row t xs f=>
  rcases(show y= .gone\/(True/\∃ys g,y= .row t ys g/\ys.length=xs.length/\(f=true->g=true))from h)with rfl|⟨_,ys,g,rfl,h1,h2⟩
  ·exact .inl rfl
  ·exact .inr ⟨hl,ys,g,rfl,h1,h2⟩
 |rowA cs=>
  rcases(show y= .gone\/∃ds,y= .rowA ds/\ds.length=(wq σ u cs).length from h)with rfl|⟨ds,rfl,h1⟩
  ·exact .inl rfl
  ·exact .inr ⟨_,rfl,by rw[nT,lE,h1,nT,lE]⟩
 |map t es=>obtain⟨ds,rfl⟩:=(show∃ds,y= .map t ds from h);exact⟨ds,rfl⟩
end Go.Den
namespace Go.Den
open Go.RowKit (Below)
def upN (keep:List Nat)(n k:Nat):Nat:=match keep[k]? with
 |some b=>b
 |none=>n+(k-keep.length)
theorem y8 {keep:List Nat}{n k b:Nat}(h:keep[k]? =some b):upN keep n k=b:=by simp[upN,h]
theorem y7 {keep:List Nat}{n k:Nat}(h:keep[k]? =none):upN keep n k=n+(k-keep.length)/\keep.length<=k:=⟨by simp[upN,h],px.1 h⟩
def KB (B B0:Bs)(s:St)(C':Cx)(up:Nat->Option Nat)(nb:Nat->Blk)(k b:Nat):Prop:=
 (nb b=nV up mq (C'.blk k)/\(b<B.np->∀o,j7 B b o))\/(nb b=s.blk b/\∀o,¬j7 B0 k o)\/
 ∃cs ds es,s.blk b= .var cs/\C'.blk k= .var ds/\nb b= .var es/\ds.map AV.width=cs.map AV.width/\es.length=cs.length/\
  (∀j,j<cs.length->es[j]? =(ds[j]?).map (ren up mq)\/(es[j]? =cs[j]? /\∀o,lL cs j<=o->o<lL cs (j+1)->¬j7 B0 k o))/\(b<B.np->∀o,j7 B0 k o->j7 B b o)
structure Back (B B0:Bs)(s:St)(C C':Cx)(keep S:List Nat)(up:Nat->Option Nat)(nb:Nat->Blk)(len':Nat)(fz:Bool):Prop where
 ups:∀k,up k=some (upN keep s.n k)
 new:∀i,s.n<=i->nb i=nV up mq (C'.blk (keep.length+(i-s.n)))
 kept:∀k b,keep[k]? =some b->KB B B0 s C' up nb k b
 snap:∀b,b∈S->(∃t xs f,fz=true/\s.blk b= .row t xs f/\nb b= .row t xs true/\(b<B.np->∀o,j7 B b o))\/((fz=true->∀t xs f,s.blk b≠ .row t xs f)/\nb b=s.blk b)
 rest:∀b,b<s.n->b∉keep->b∉S->nb b=s.blk b
 len:keep.length<=len'
def l9 (C C':Cx)(K:Nat->Prop)(n np len':Nat)(nb:Nat->Blk):Cx where
 w:=C'.w
 loc:=fun b=>if n<=b then C'.loc (np+(b-n))else C.loc b
 blk:=nb
 ok:=K
 used:=fun b=>C.used b\/(n<=b/\np+(b-n)<len')
section
variable {B:Bs}{s:St}{C C':Cx}{keep S:List Nat}{up:Nat->Option Nat}{nb:Nat->Blk}{len':Nat}{fz:Bool}{wr:List (Nat×Nat×Nat)}{s':St}
theorem mK {σ:Nat->Option Nat}{u:Nat->Blk}{x:Blk}{cs:List AV}:nV σ u x= .var cs->∃ds,x= .var ds/\ds.map AV.width=cs.map AV.width:=by
 intro h
 cases x<;>simp[nV]at h
 subst h
 exact⟨_,rfl,(gu _).symm⟩
theorem CB (hI:Inv B s C)(hfr:∀i,C.used i->i<s.n)
  (hI':Inv (lT (cD C keep S) keep.length wr) s' C') (hO:Old (lT (cD C keep S) keep.length wr) C')
  (hB:Back B (lT (cD C keep S) keep.length wr) s C C' keep S up nb len' fz):
  Ext C (l9 C C' (fun c=>if fz=true then C'.ok c else C.ok c) s.n keep.length len' nb):=by
 have hold:∀b,C.used b->(l9 C C' (fun c=>if fz=true then C'.ok c else C.ok c) s.n keep.length len' nb).loc b=C.loc b:=fun b h=>by
  have:=hfr b h
  simp only[l9]
  rw[ae (by omega)]
 refine {loc:=fun b c h=>(hold b (lc hI h)).trans h,used:=fun b h=> .inl h,keep:=fun b hu=>?_,cell:=fun c o v hc hv=>hO.cell c o v (.inl hc) hv,ok:=fun c hc=>?_,shape:=fun c x h=>hI'.shp c x h}
 ·have hbk:∀(x:Blk),nb b=s.blk b->BK (C.blk b) (nb b) ((l9 C C' (fun c=>if fz=true then C'.ok c else C.ok c) s.n keep.length len' nb).loc b=C.loc b):=fun _ e=>by
   rw[e,hI.eqb];exact BK.refl _ (hold b hu)
  show BK (C.blk b) (nb b) _
  by_cases hm:b∈keep
  ·obtain⟨k,hkl,hkb⟩:=jN hm
   have hkb:keep[k]? =some b:=by rw[co hkl,hkb]
   rcases hB.kept k b hkb with ⟨e,_⟩|⟨e,_⟩|⟨cs,ds,es,e1,e2,e3,_⟩
   ·have:=hO.keep k hkl
    have hbk0:(lT (cD C keep S) keep.length wr).hs0 k=nV (oS keep · 0) (kP S C.blk) (C.blk b):=by simp[lT,cD,hkb]
    rw[hbk0]at this
    rw[e]
    exact BK_ren this (hold b hu)
   ·exact hbk .gone e
   ·rw[hI.eqb,e1,e3];exact⟨_,rfl⟩
  ·by_cases hs:b∈S
   ·rcases hB.snap b hs with ⟨t,xs,f,_,e1,e2,_⟩|⟨_,e⟩
    ·rw[hI.eqb,e1,e2];exact .inr ⟨hold b hu,xs,true,rfl,rfl,fun _=>rfl⟩
    ·exact hbk .gone e
   ·exact hbk .gone (hB.rest b (hfr b hu) hm hs)
 ·simp only[l9]
  split
  ·exact hO.ok c (.inl hc)
  ·exact hc
theorem Fh (hI:Inv B s C)(hfr:∀i,C.used i->i<s.n)(hk:∀b∈keep,s.blk b≠ .gone)
  (hI':Inv (lT (cD C keep S) keep.length wr) s' C') (hO:Old (lT (cD C keep S) keep.length wr) C') (hu':∀i,C'.used i->i<len')
  (hB:Back B (lT (cD C keep S) keep.length wr) s C C' keep S up nb len' fz)
  (hbr:∀i,BR (C'.okBy fun c=>if fz=true then C'.ok c else C.ok c) i (C'.blk i)):
  Mv up mq (C'.okBy fun c=>if fz=true then C'.ok c else C.ok c) (l9 C C' (fun c=>if fz=true then C'.ok c else C.ok c) s.n keep.length len' nb):=by
 have hloc:∀b i,up b=some i->C'.used b->(l9 C C' (fun c=>if fz=true then C'.ok c else C.ok c) s.n keep.length len' nb).loc i=C'.loc b:=by
  intro b i h hu
  rw[hB.ups]at h
  obtain rfl:=aw h
  cases hj:keep[b]? with
  |some j=>
   rw[y8 hj]
   have hm:=cw hj
   have hlt:=hfr j (oQ hI (hk j hm))
   have hbl:b<keep.length:=(bj.1 hj).1
   simp only[l9]
   rw[ae (by omega),hI'.pas b hbl]
   simp[lT,cD,hj]
  |none=>
   obtain⟨hun,this⟩:=y7 (n:=s.n) hj
   rw[hun]
   simp only[l9]
   rw[aa (by omega)]
   congr 1;omega
 have hrow:∀b i,up b=some i->C'.used b->(nb i=nV up mq (C'.blk b))\/(∃j,keep[b]? =some j/\j=i/\nb i=s.blk i/\∀o,¬j7 (lT (cD C keep S) keep.length wr) b o)\/∃es,nb i= .var es:=by
  intro b i h hu
  rw[hB.ups]at h
  obtain rfl:=aw h
  cases hj:keep[b]? with
  |some j=>
   rw[y8 hj]
   rcases hB.kept b j hj with ⟨e,_⟩|⟨e,h2⟩|⟨cs,ds,es,e1,e2,e3,_⟩
   ·exact .inl e
   ·exact .inr (.inl ⟨j,rfl,rfl,e,h2⟩)
   ·exact .inr (.inr ⟨es,e3⟩)
  |none=>
   obtain⟨hun,this⟩:=y7 (n:=s.n) hj
   rw[hun]
   have e:=hB.new (s.n+(b-keep.length)) (by omega)
   rw[show keep.length+(s.n+(b-keep.length)-s.n)=b by omega]at e
   exact .inl e
 refine {w:=rfl,ok:=fun c h=>h,loc:=hloc,used:=fun b i h hu=>?_,row:=fun b i h hu t ys g hg=>?_,rowA:=fun b i h hu ds hg=>?_,snap:=fun b h=>?_,us:=fun b c h=>lc hI' h,br:=hbr}
 ·rw[hB.ups]at h
  have hul:=hu' b hu
  obtain rfl:=aw h
  cases hj:keep[b]? with
  |some j=>
   rw[y8 hj]
   exact .inl (oQ hI (hk j (cw hj)))
  |none=>
   obtain⟨hun,this⟩:=y7 (n:=s.n) hj
   rw[hun]
   exact .inr ⟨by omega,by omega⟩
 ·rcases hrow b i h hu with e|⟨j,hj,rfl,e,hm⟩|⟨es,e⟩
  ·have hg:nb i= .row t ys g:=hg
   rw[e]at hg
   exact⟨ys,g,uF hg,rfl⟩
  ·have hg:nb j= .row t ys g:=hg
   rw[e]at hg
   have hbl:b<keep.length:=(bj.1 hj).1
   have h0:(lT (cD C keep S) keep.length wr).hs0 b= .row t ys g:=by simp[lT,cD,hj,hI.eqb,hg,nV]
   have h1:=hO.keep b hbl
   have h2:=(hI'.stay b hbl hm).1 (by rw[h0];simp)
   rw[<-hI'.eqb]at h2
   rw[h0]at h1
   rcases(show C'.blk b= .gone\/(True/\∃zs g',C'.blk b= .row t zs g'/\zs.length=ys.length/\(g=true->g'=true))from h1)with h3|⟨_,zs,g',h3,h4,_⟩
   ·exact ah h3 h2
   ·exact⟨zs,g',h3,h4⟩
  ·have hg:nb i= .row t ys g:=hg
   rw[e]at hg;cases hg
 ·rcases hrow b i h hu with e|⟨j,hj,rfl,e,hm⟩|⟨es,e⟩
  ·have hg:nb i= .rowA ds:=hg
   rw[e]at hg
   exact sF hg
  ·have hg:nb j= .rowA ds:=hg
   rw[e]at hg
   have hbl:b<keep.length:=(bj.1 hj).1
   have h0:(lT (cD C keep S) keep.length wr).hs0 b= .rowA (wq (oS keep · 0) (kP S C.blk) ds):=by simp[lT,cD,hj,hI.eqb,hg,nV]
   have h1:=hO.keep b hbl
   have h2:=(hI'.stay b hbl hm).1 (by rw[h0];simp)
   rw[<-hI'.eqb]at h2
   rw[h0]at h1
   rcases(show C'.blk b= .gone\/∃zs,C'.blk b= .rowA zs/\zs.length=(wq (oS keep · 0) (kP S C.blk) ds).length from h1)with h3|⟨zs,h3,h4⟩
   ·exact ah h3 h2
   ·exact⟨zs,h3,by rw[h4,nT,lE]⟩
  ·have hg:nb i= .rowA ds:=hg
   rw[e]at hg;cases hg
 ·rw[hB.ups]at h;cases h
end
end Go.Den
namespace Go.Den
open Go.RowKit (Below)
section
variable {B:Bs}{s:St}{C C':Cx}{keep S:List Nat}{up:Nat->Option Nat}{nb:Nat->Blk}{len':Nat}{fz:Bool}{wr:List (Nat×Nat×Nat)}{s' s1:St}
theorem off0_at {cs:List AV}{j:Nat}{a:AV}(h:cs[j]? =some a):lL cs (j+1)=lL cs j+a.width:=by
 obtain⟨hj,ha⟩:=bj.1 h
 rw[ji cs (j+1) (by omega),ji cs j (by omega),List.take_add_one,h,bO]
 simp[bw]
theorem BR.frozen {b:Nat}{t:Tag}{xs:List (El t)}{f:Bool}(h:BR C b (.row t xs f)):BR C b (.row t xs true):=by
 simp only[BR]at h|-
 cases hc:C.loc b with
 |none=>rw[hc]at h;exact h
 |some c=>
  rw[hc]at h
  obtain⟨arr,T,fr,h1,h2,_⟩:=h
  exact⟨arr,T,fr,h1,h2,fun e=>by cases e⟩
theorem WK.trans {x y z:Blk}(h:WK x y)(k:WK y z):WK x z:=by
 refine⟨fun cs hc=>?_,fun ds hd=>?_⟩
 ·obtain⟨ds,h1,h2⟩:=h.1 cs hc
  obtain⟨es,h3,h4⟩:=k.1 ds h1
  exact⟨es,h3,h4.trans h2⟩
 ·obtain⟨cs,h1⟩:=k.2 ds hd
  exact h.2 cs h1
theorem CC (hI':Inv (lT (cD C keep S) keep.length wr) s' C'){C1:Cx}(hE:Ext C C1)(hw1:C1.w=C'.w){K:Nat->Prop}(hM:Mv up mq (C'.okBy K) C1){k b:Nat}(hkb:keep[k]? =some b)(hl:C'.loc k=C.loc b)(hl1:C1.loc b=C.loc b)
  {cs ds es:List AV} (hbr:BR C b (.var cs)) (hbr':BR (C'.okBy K) k (.var ds)) (hw:ds.map AV.width=cs.map AV.width) (hlen:es.length=cs.length)
  (he:∀j,j<cs.length->es[j]? =(ds[j]?).map (ren up mq)\/(es[j]? =cs[j]? /\∀o,lL cs j<=o->o<lL cs (j+1)->¬j7 (lT (cD C keep S) keep.length wr) k o)):BR C1 b (.var es)/\es.map AV.width=cs.map AV.width:=by
 obtain⟨c,arr,T,fr,h1,h2,h3,h4,h5⟩:=hbr
 obtain⟨c',arr',T',fr',g1,g2,g3,g4,g5⟩:=hbr'
 have g1:C'.loc k=some c':=g1
 obtain rfl:c=c':=by rw[hl,h1]at g1;exact aw g1
 have g2:C'.w.heap[c]? =some (.cells arr' T' fr'):=g2
 have hkl:k<keep.length:=(bj.1 hkb).1
 have hwe:es.map AV.width=cs.map AV.width:=by
  apply qy
  intro j
  simp only[lD]
  by_cases hj:j<cs.length
  ·rcases he j hj with e|⟨e,_⟩
   ·rw[e]
    have:(ds.map AV.width)[j]? =(cs.map AV.width)[j]? :=by rw[hw]
    simp only[lD]at this
    rw[<-this]
    cases ds[j]? <;>simp[Aw]
   ·rw[e]
  ·rw[fF (by omega),fF (by omega)]
 refine⟨⟨c,arr',T',fr',hl1.trans h1,by rw[hw1];exact g2,by rw[g3,iI hw,iI hwe],fun j a ha=>?_,g5⟩,hwe⟩
 rw[kK hwe]
 have hj:j<cs.length:=by rw[<-hlen];exact(bj.1 ha).1
 rcases he j hj with e|⟨e,hno⟩
 ·rw[e]at ha
  obtain⟨d,hd,rfl⟩:∃d,ds[j]? =some d/\ren up mq d=a:=by simpa using ha
  have:=ER.mv hM (g4 j d hd)
  rw[kK hw]at this
  exact this
 ·rw[e]at ha
  have h6:=h4 j a ha
  refine ER.ext hE (fun q hq=>?_) h6
  have hq':lL cs j+q<lL cs (j+1):=by rw[off0_at ha];omega
  have:=hI'.prt k hkl c (by simp[lT,cD,hkb,h1]) (lL cs j+q) (hno _ (by omega) hq')
  simp only[World.cell?,g2]at this
  have e2:(lT (cD C keep S) keep.length wr).w0.heap[c]? =some (.cells arr T fr):=h2
  rw[e2]at this
  simpa using this
theorem H5 (hI:Inv B s C)(hfr:∀i,C.used i->i<s.n)(hk:∀b∈keep,s.blk b≠ .gone)
  (hI':Inv (lT (cD C keep S) keep.length wr) s' C') (hO:Old (lT (cD C keep S) keep.length wr) C') (hu':∀i,C'.used i->i<len')
  (hB:Back B (lT (cD C keep S) keep.length wr) s C C' keep S up nb len' fz)
  (hbr:∀i,BR (C'.okBy fun c=>if fz=true then C'.ok c else C.ok c) i (C'.blk i))
  (hblk:∀i,s1.blk i=nb i) (hnp:s1.np=s.np) (hal:s1.al=s.al):
  Inv B s1 (l9 C C' (fun c=>if fz=true then C'.ok c else C.ok c) s.n keep.length len' nb):=by
 have hE:=CB hI hfr hI' hO hB
 have hM:=Fh hI hfr hk hI' hO hu' hB hbr
 generalize hC1:l9 C C' (fun c=>if fz=true then C'.ok c else C.ok c) s.n keep.length len' nb=C1 at hE hM|-
 have c1w:C1.w=C'.w:=by rw[<-hC1];rfl
 have c1blk:∀b,C1.blk b=nb b:=fun b=>by rw[<-hC1];rfl
 have lo:∀b,b<s.n->C1.loc b=C.loc b:=fun b h=>by rw[<-hC1];simp only[l9];rw[ae (by omega)]
 have ln:∀b,s.n<=b->C1.loc b=C'.loc (keep.length+(b-s.n)):=fun b h=>by rw[<-hC1];simp only[l9];rw[aa h]
 have c1ok:∀c,C1.ok c->if fz=true then C'.ok c else C.ok c:=fun c h=>by rw[<-hC1]at h;exact h
 have hl:∀k b,keep[k]? =some b->C'.loc k=C.loc b:=fun k b h=>by
  rw[hI'.pas k (bj.1 h).1];simp[lT,cD,h]
 have hl0:∀k b,keep[k]? =some b->(lT (cD C keep S) keep.length wr).loc0 k=C.loc b:=fun k b h=>by simp[lT,cD,h]
 have hb0:∀k b,keep[k]? =some b->(lT (cD C keep S) keep.length wr).hs0 k=nV (oS keep · 0) (kP S C.blk) (C.blk b):=fun k b h=>by simp[lT,cD,h]
 have hk0:∀k c,(lT (cD C keep S) keep.length wr).loc0 k=some c->∃b,keep[k]? =some b/\C.loc b=some c:=fun k c h=>by
  simp only[lT,cD]at h
  cases hki:keep[k]? with
  |none=>rw[hki]at h;cases h
  |some b=>rw[hki]at h;exact⟨b,rfl,h⟩
 have hkm:∀k b,keep[k]? =some b->b∈keep/\k<keep.length/\b<s.n:=fun k b h=>
  ⟨cw h,(bj.1 h).1,hfr b (oQ hI (hk b (cw h)))⟩
 have hmk:∀b,b∈keep->∃k,keep[k]? =some b:=fun b h=>by
  obtain⟨k,hkl,hkb⟩:=jN h
  exact⟨k,by rw[co hkl,hkb]⟩
 have hfrm:∀c,c<C.w.heap.size->(∀b∈keep,C.loc b≠some c)->C'.w.heap[c]? =C.w.heap[c]? :=fun c hc h=>by
  refine hI'.frm.2 c hc fun k _ e=>?_
  obtain⟨b,h1,h2⟩:=hk0 k c e
  exact h b (cw h1) h2
 have hwr:∀k b,keep[k]? =some b->b<B.np->∀o,j7 (lT (cD C keep S) keep.length wr) k o->j7 B b o:=fun k b h hb o ho=>by
  rcases hB.kept k b h with ⟨_,e⟩|⟨_,e⟩|⟨_,_,_,_,_,_,_,_,_,e⟩
  ·exact e hb o
  ·exact ah ho (e o)
  ·exact e hb o ho
 have hBK:∀b,b<s.n->BK (s.blk b) (nb b) True:=fun b hb=>by
  by_cases hu:C.used b
  ·have:=hE.keep b hu
   rw[hI.eqb,c1blk,lo b hb]at this
   revert this
   generalize s.blk b=x
   generalize nb b=y
   intro this
   cases x with
   |row t xs f=>exact this.imp id fun h=>⟨trivial,h.2⟩
   |_=>exact this
  ·have hg:=(hI.us b hu).1
   have hm:b∉keep:=fun h=>hk b h hg
   have:nb b=s.blk b:=by
    by_cases hs:b∈S
    ·rcases hB.snap b hs with ⟨t,xs,f,_,e,_⟩|⟨_,e⟩
     ·rw[hg]at e;cases e
     ·exact e
    ·exact hB.rest b hb hm hs
   rw[this]
   exact BK.refl _ trivial
 have hng:∀b,b<s.n->nb b≠ .gone->s.blk b≠ .gone:=fun b hb h=>BK_gone (hBK b hb) h
 have hnew:∀b,s.n<=b->nb b=nV up mq (C'.blk (keep.length+(b-s.n))):=hB.new
 have hngn:∀b,s.n<=b->nb b≠ .gone->s'.blk (keep.length+(b-s.n))≠ .gone:=fun b hb h e=>by
  rw[hnew b hb,hI'.eqb,e]at h;exact h rfl
 refine {eqb:=fun i=>(c1blk i).trans (hblk i).symm,bl:=fun i=>?_,inj:=fun i j c hi hj h1 h2=>?_,lt:=fun i c h=>?_,us:=fun i hu=>?_,okd:=fun c hc=>?_,okS:=fun c hc=>?_,own:=fun i c hi h=>?_,lt0:=hI.lt0,inj0:=hI.inj0,pas:=fun i hi=>?_,pus:=fun i hi=>?_,frm:=?_,prt:=fun i hi c hc o hm=>?_,prt2:=fun i hi c hc hm=>?_,stay:=fun i hi hm=>?_,shp:=fun c x hx=>?_,wid:=fun i hi=>?_,npn:=hnp.trans hI.npn,all:=hal.trans hI.all}
 ·
  rw[hblk]
  by_cases hi:s.n<=i
  ·rw[hnew i hi];exact BR.mv hM (ln i hi) (hbr _)
  ·have hi:i<s.n:=by omega
   have same:nb i=s.blk i->(∀c,s.blk i≠ .gone->C.loc i=some c->C'.w.heap[c]? =C.w.heap[c]?)->BR C1 i (nb i):=fun e h=>by
    rw[e]
    by_cases g:s.blk i= .gone
    ·rw[g];trivial
    ·exact(hI.bl i).ext hE (lo i hi) fun c hc=>by rw[c1w];exact h c g hc
   have far:i∉keep->∀c,s.blk i≠ .gone->C.loc i=some c->C'.w.heap[c]? =C.w.heap[c]? :=fun hm c g hc=>
    hfrm c (hI.lt i c hc) fun b hb e=>hm (by rw[hI.inj i b c g (hk b hb) hc e];exact hb)
   by_cases hm:i∈keep
   ·obtain⟨k,hkb⟩:=hmk i hm
    rcases hB.kept k i hkb with ⟨e,_⟩|⟨e,hno⟩|⟨cs,ds,es,e1,e2,e3,e4,e5,e6,_⟩
    ·rw[e];exact BR.mv hM ((lo i hi).trans (hl k i hkb).symm) (hbr k)
    ·exact same e fun c _ hc=>hI'.prt2 k (hkm k i hkb).2.1 c ((hl0 k i hkb).trans hc) hno
    ·rw[e3]
     have h1:=hI.bl i;rw[e1]at h1
     have h2:=hbr k;rw[e2]at h2
     exact(CC hI' hE c1w hM hkb (hl k i hkb) (lo i hi) h1 h2 e4 e5 e6).1
   ·by_cases hs:i∈S
    ·rcases hB.snap i hs with ⟨t,xs,f,_,e1,e2,_⟩|⟨_,e⟩
     ·rw[e2]
      have h1:=hI.bl i;rw[e1]at h1
      exact BR.frozen (h1.ext hE (lo i hi) fun c hc=>by rw[c1w];exact far hm c (by rw[e1];simp) hc)
     ·exact same e (far hm)
    ·exact same (hB.rest i hi hm hs) (far hm)
 ·
  rw[hblk]at hi hj
  have key:∀i j,s.n<=i->j<s.n->nb i≠ .gone->nb j≠ .gone->C1.loc i=some c->C1.loc j=some c->False:=by
   intro i j hi1 hj1 hi hj h1 h2
   rw[ln i hi1]at h1;rw[lo j hj1]at h2
   have hjs:=hng j hj1 hj
   have hlt:=hI.lt j c h2
   rcases hI'.own _ c (hngn i hi1 hi) h1 with ⟨k,hk1,hk2,hk3⟩|h
   ·obtain⟨b,e1,e2⟩:=hk0 k c hk2
    obtain rfl:=hI.inj j b c hjs (hk b (hkm k b e1).1) h2 e2
    have hkl:=(hkm k j e1).2.1
    have fin:C'.blk k≠ .gone->False:=fun g=>by
     rw[hI'.eqb]at g
     have:=hI'.inj _ k c (hngn i hi1 hi) g h1 ((hl k j e1).trans e2)
     omega
    rcases hk3 with e|hall
    ·omega
    ·rcases hB.kept k j e1 with ⟨e,_⟩|⟨_,e⟩|⟨_,_,_,_,e,_⟩
     ·exact fin fun g=>by rw[e,g]at hj;exact hj rfl
     ·exact e 0 (hall 0)
     ·exact fin (by rw[e];simp)
   ·exact ah h (show ¬C.w.heap.size<=c by omega)
  by_cases hi1:s.n<=i
  ·by_cases hj1:s.n<=j
   ·rw[ln i hi1]at h1;rw[ln j hj1]at h2
    have:=hI'.inj _ _ c (hngn i hi1 hi) (hngn j hj1 hj) h1 h2
    omega
   ·exact(key i j hi1 (by omega) hi hj h1 h2).elim
  ·by_cases hj1:s.n<=j
   ·exact(key j i hj1 (by omega) hj hi h2 h1).elim
   ·rw[lo i (by omega)]at h1;rw[lo j (by omega)]at h2
    exact hI.inj i j c (hng i (by omega) hi) (hng j (by omega) hj) h1 h2
 ·
  rw[c1w]
  by_cases hi:s.n<=i
  ·rw[ln i hi]at h;exact hI'.lt _ c h
  ·rw[lo i (by omega)]at h
   exact dB (hI.lt i c h) hI'.frm.1.size
 ·
  have hu:¬(C.used i\/(s.n<=i/\keep.length+(i-s.n)<len')):=by rw[<-hC1]at hu;exact hu
  rw[hblk]
  by_cases hi:s.n<=i
  ·have:=hI'.us (keep.length+(i-s.n)) fun h=>hu (.inr ⟨hi,hu' _ h⟩)
   rw[hnew i hi,hI'.eqb,this.1,ln i hi]
   exact⟨rfl,this.2⟩
  ·have h1:=hI.us i fun h=>hu (.inl h)
   have:=hBK i (by omega)
   rw[h1.1]at this
   exact⟨this,by rw[lo i (by omega)];exact h1.2⟩
 ·
  have hK:=c1ok c hc
  have hokC:fz≠true->C.ok c:=fun e=>by rw[ae e]at hK;exact hK
  have hC'ok:C'.ok c:=by
   by_cases e:fz=true
   ·rw[aa e]at hK;exact hK
   ·exact hO.ok c (.inl (hokC e))
  obtain⟨d1,d2⟩:=hI'.okd c hC'ok
  refine⟨by rw[c1w];exact d1,fun i hi h=>?_⟩
  rw[hblk]at hi
  by_cases hin:s.n<=i
  ·rw[ln i hin]at h;rw[hnew i hin,li,hI'.eqb]at hi;exact d2 _ hi h
  ·have hin:i<s.n:=by omega
   rw[lo i hin]at h
   have hws:wrt (s.blk i)=true:=ET (hBK i hin) hi
   have hgs:s.blk i≠ .gone:=fun e=>by rw[e]at hws;cases hws
   by_cases hm:i∈keep
   ·obtain⟨k,hkb⟩:=hmk i hm
    refine d2 k ?_ ((hl k i hkb).trans h)
    rcases hB.kept k i hkb with ⟨e,_⟩|⟨_,hno⟩|⟨_,_,_,_,e,_⟩
    ·rw[e,li,hI'.eqb]at hi;exact hi
    ·exact(hI'.stay k (hkm k i hkb).2.1 hno).2 (by rw[hb0 k i hkb,li,hI.eqb];exact hws)
    ·rw[<-hI'.eqb,e];rfl
   ·by_cases e:fz=true
    ·rcases hI'.okS c hC'ok with h0|h0|⟨k,k1,k2,_⟩
     ·rcases(h0:C.ok c\/∃b,b∈S/\(∃t xs f,C.blk b= .row t xs f)/\C.loc b=some c)with h0|⟨b,b1,⟨t,xs,f,b2⟩,b3⟩
      ·exact(hI.okd c h0).2 i hws h
      ·obtain rfl:=hI.inj i b c hgs (by rw[<-hI.eqb,b2];simp) h b3
       rcases hB.snap i b1 with ⟨t',xs',f',_,_,e2,_⟩|⟨e1,_⟩
       ·rw[e2]at hi;cases hi
       ·exact e1 e t xs f (by rw[<-hI.eqb];exact b2)
     ·have:=hI.lt i c h
      exact ah h0 (show ¬C.w.heap.size<=c by omega)
     ·obtain⟨b,b1,b2⟩:=hk0 k c k2
      obtain rfl:=hI.inj i b c hgs (hk b (hkm k b b1).1) h b2
      exact hm (hkm k i b1).1
    ·exact(hI.okd c (hokC e)).2 i hws h
 ·
  have hK:=c1ok c hc
  have base:C.ok c->B.ok0 c\/B.w0.heap.size<=c\/∃i,i<B.np/\B.loc0 i=some c/\wrt (s1.blk i)=false/\∀o,j7 B i o:=fun h=>by
   rcases hI.okS c h with h|h|⟨i,i1,i2,i3,i4⟩
   ·exact .inl h
   ·exact .inr (.inl h)
   ·refine .inr (.inr ⟨i,i1,i2,?_,i4⟩)
    rw[hblk]
    cases hw:wrt (nb i)with
    |false=>rfl
    |true=>rw[ET (hBK i (hfr i (hI.pus i i1))) hw]at i3;cases i3
  have place:∀b,s.blk b≠ .gone->C.loc b=some c->wrt (nb b)=false->(b<B.np->∀o,j7 B b o)->B.ok0 c\/B.w0.heap.size<=c\/∃i,i<B.np/\B.loc0 i=some c/\wrt (s1.blk i)=false/\∀o,j7 B i o:=fun b hg hl hw hall=>by
   rcases hI.own b c hg hl with ⟨i,i1,i2,i3⟩|h
   ·refine .inr (.inr ⟨i,i1,i2,?_,?_⟩)
    ·rw[hblk]
     cases hw':wrt (nb i)with
     |false=>rfl
     |true=>
      have hws:=ET (hBK i (hfr i (hI.pus i i1))) hw'
      have:=hI.inj i b c (fun e=>by rw[e]at hws;cases hws) hg ((hI.pas i i1).trans i2) hl
      subst this
      rw[hw]at hw';cases hw'
    ·rcases i3 with rfl|h
     ·exact hall i1
     ·exact h
   ·exact .inr (.inl h)
  by_cases e:fz=true
  ·rw[aa e]at hK
   rcases hI'.okS c hK with h0|h0|⟨k,k1,k2,k3,k4⟩
   ·rcases(h0:C.ok c\/∃b,b∈S/\(∃t xs f,C.blk b= .row t xs f)/\C.loc b=some c)with h0|⟨b,b1,⟨t,xs,f,b2⟩,b3⟩
    ·exact base h0
    ·rw[hI.eqb]at b2
     rcases hB.snap b b1 with ⟨t',xs',f',_,_,e2,hall⟩|⟨e1,_⟩
     ·exact place b (by rw[b2];simp) b3 (by rw[e2];rfl) hall
     ·exact ah b2 (e1 e t xs f)
   ·exact .inr (.inl (dN hI.frm.1.size h0))
   ·obtain⟨b,b1,b2⟩:=hk0 k c k2
    rcases hB.kept k b b1 with ⟨e1,hall⟩|⟨_,e1⟩|⟨_,_,_,_,e2,_⟩
    ·exact place b (hk b (hkm k b b1).1) b2 (by rw[e1,li,hI'.eqb];exact k3) hall
    ·exact ah (k4 0) (e1 0)
    ·rw[<-hI'.eqb,e2]at k3;cases k3
  ·rw[ae e]at hK;exact base hK
 ·
  rw[hblk]at hi
  by_cases hin:s.n<=i
  ·rw[ln i hin]at h
   rcases hI'.own _ c (hngn i hin hi) h with ⟨k,k1,k2,k3⟩|h
   ·obtain⟨b,b1,b2⟩:=hk0 k c k2
    rcases k3 with k3|k3
    ·have:=(hkm k b b1).2.1;omega
    ·rcases hI.own b c (hk b (hkm k b b1).1) b2 with ⟨j,j1,j2,j3⟩|h
     ·refine .inl ⟨j,j1,j2,.inr ?_⟩
      rcases j3 with rfl|h
      ·exact fun o=>hwr k j b1 j1 o (k3 o)
      ·exact h
     ·exact .inr h
   ·exact .inr (dN hI.frm.1.size h)
  ·rw[lo i (by omega)]at h
   exact hI.own i c (hng i (by omega) hi) h
 ·
  rw[lo i (hfr i (hI.pus i hi))];exact hI.pas i hi
 ·
  rw[<-hC1];exact .inl (hI.pus i hi)
 ·
  rw[c1w]
  refine⟨hI.frm.1.trans hI'.frm.1,fun c hc h=>?_⟩
  rw[<-hI.frm.2 c hc h]
  refine hfrm c (dB hc hI.frm.1.size) fun b hb e=>?_
  rcases hI.own b c (hk b hb) e with ⟨j,j1,j2,_⟩|h'
  ·exact h j j1 j2
  ·omega
 ·
  rw[<-hI.prt i hi c hc o hm,c1w]
  have hci:C.loc i=some c:=(hI.pas i hi).trans hc
  by_cases g:∃b,b∈keep/\C.loc b=some c
  ·obtain⟨b,hb,hbl⟩:=g
   obtain⟨k,hkb⟩:=hmk b hb
   refine hI'.prt k (hkm k b hkb).2.1 c ((hl0 k b hkb).trans hbl) o fun hmw=>?_
   rcases hI.own b c (hk b hb) hbl with ⟨j,j1,j2,j3⟩|h
   ·obtain rfl:=hI.inj0 i j c hi j1 hc j2
    rcases j3 with rfl|j3
    ·exact hm (hwr k i hkb hi o hmw)
    ·exact hm (j3 o)
   ·exact ah (hI.lt0 i c hi hc) (by omega)
  ·exact m6 (hfrm c (hI.lt i c hci) fun b hb e=>g ⟨b,hb,e⟩)
 ·
  rw[<-hI.prt2 i hi c hc hm,c1w]
  have hci:C.loc i=some c:=(hI.pas i hi).trans hc
  by_cases g:∃b,b∈keep/\C.loc b=some c
  ·obtain⟨b,hb,hbl⟩:=g
   obtain⟨k,hkb⟩:=hmk b hb
   refine hI'.prt2 k (hkm k b hkb).2.1 c ((hl0 k b hkb).trans hbl) fun o hmw=>?_
   rcases hI.own b c (hk b hb) hbl with ⟨j,j1,j2,j3⟩|h
   ·obtain rfl:=hI.inj0 i j c hi j1 hc j2
    rcases j3 with rfl|j3
    ·exact hm o (hwr k i hkb hi o hmw)
    ·exact hm o (j3 o)
   ·exact ah (hI.lt0 i c hi hc) (by omega)
  ·exact hfrm c (hI.lt i c hci) fun b hb e=>g ⟨b,hb,e⟩
 ·
  rw[hblk]
  have hin:=hfr i (hI.pus i hi)
  obtain⟨a1,a2⟩:=hI.stay i hi hm
  have same:nb i=s.blk i->(B.hs0 i≠ .gone->nb i≠ .gone)/\(wrt (B.hs0 i)=true->wrt (nb i)=true):=fun e=>by rw[e];exact⟨a1,a2⟩
  by_cases hmem:i∈keep
  ·obtain⟨k,hkb⟩:=hmk i hmem
   rcases hB.kept k i hkb with ⟨_,e⟩|⟨e,_⟩|⟨_,_,_,_,_,e,_⟩
   ·exact ah (e hi 0) (hm 0)
   ·exact same e
   ·rw[e];exact⟨fun _=>by simp,fun _=>rfl⟩
  ·by_cases hs:i∈S
   ·rcases hB.snap i hs with ⟨_,_,_,_,_,_,e⟩|⟨_,e⟩
    ·exact ah (e hi 0) (hm 0)
    ·exact same e
   ·exact same (hB.rest i hin hmem hs)
 ·
  rw[c1w];exact hI'.shp c x (hI.shp c x hx)
 ·
  rw[hblk]
  have hin:=hfr i (hI.pus i hi)
  refine(hI.wid i hi).trans ?_
  have same:nb i=s.blk i->WK (s.blk i) (nb i):=fun e=>by rw[e];exact⟨fun cs h=>⟨cs,h,rfl⟩,fun ds h=>⟨ds,h⟩⟩
  by_cases hmem:i∈keep
  ·obtain⟨k,hkb⟩:=hmk i hmem
   rcases hB.kept k i hkb with ⟨e,_⟩|⟨e,_⟩|⟨cs,ds,es,e1,e2,e3,e4,e5,e6,_⟩
   ·obtain⟨w1,w2⟩:=hI'.wid k (hkm k i hkb).2.1
    rw[hb0 k i hkb,hI.eqb,<-hI'.eqb]at w1 w2
    rw[e]
    refine⟨fun cs h=>?_,fun ds h=>?_⟩
    ·obtain⟨ds,d1,d2⟩:=w1 (wq (oS keep · 0) (kP S C.blk) cs) (by rw[h];rfl)
     exact⟨_,by rw[d1];rfl,by rw[gu,d2,gu]⟩
    ·obtain⟨ds',d1,_⟩:=mK h
     obtain⟨cs',d2⟩:=w2 ds' d1
     obtain⟨cs,d3,_⟩:=mK d2
     exact⟨cs,d3⟩
   ·exact same e
   ·have h1:=hI.bl i;rw[e1]at h1
    have h2:=hbr k;rw[e2]at h2
    have hwe:=(CC hI' hE c1w hM hkb (hl k i hkb) (lo i hin) h1 h2 e4 e5 e6).2
    rw[e1,e3]
    refine⟨fun cs' h=>?_,fun ds' _=>⟨cs,rfl⟩⟩
    obtain rfl:=Blk.var.inj h
    exact⟨es,rfl,hwe⟩
  ·by_cases hs:i∈S
   ·rcases hB.snap i hs with ⟨_,_,_,_,e1,e2,_⟩|⟨_,e⟩
    ·rw[e1,e2]
     exact⟨fun _ h=>(by cases h),fun _ h=>(by cases h)⟩
    ·exact same e
   ·exact same (hB.rest i hin hmem hs)
end
end Go.Den
