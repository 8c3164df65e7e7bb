/- Theory for the proofs of this claim: see its last text. -/
import Derived.Test.YtgpplhdmdndffaaGreatDenD
set_option linter.unusedSimpArgs false
namespace Go.Den
section
variable {T:Tr TI}{s s':St}
theorem qV {x:AV}{b:Nat}(h:x= .vec b\/x= .mapr b\/(∃t i o,x= .ptrE b t i o)\/(∃o n i,x= .ptrI b o n i)):b∈rz true x:=by
 rcases h with rfl|rfl|⟨t,i,o,rfl⟩|⟨o,n,i,rfl⟩<;>simp[rz]
theorem Dr {b:Nat}{n:Int}:b∈rz true (.pre b n):=by simp[rz]
theorem Gs {t:TypeId}{a:AV}(h:ij (pM T s t a) s s'):yB T s' t a=yB T s t a:=by
 unfold yB
 cases ht:T.get t with
 |none=>rfl
 |some ti=>
  cases a with
  |ptr b off=>
   simp only[pM,ht]at h
   dsimp only
   cases hb:s.blk b with
   |var cs=>
    simp only[hb]at h
    cases hs:uq cs off ti.size with
    |none=>
     simp only[hs]at h
     have:=SpB.whole (h _ (cx.2 rfl))
     rw[<-this,hb]
    |some p=>
     obtain⟨i,r⟩:=p
     simp only[hs]at h
     have h1:=h _ (cx.2 rfl)
     simp only at h1
     rw[hb]at h1
     rcases h1 with h1|⟨_,cs',ds,hc,hd,h2,h3⟩
     ·rw[<-h1]
     ·cases hc
      rw[hd]
      simp only[hs,xA h2 hs (fun k hk hk'=>h3 k hk (by rw[lenN_eq];exact hk'))]
   |_=>
    simp only[hb]at h
    have:=SpB.whole (h _ (cx.2 rfl))
    rw[<-this,hb]
  |ptrI b off n j=>
   simp only[pM,ht]at h
   dsimp only
   cases hb:s.blk b with
   |var cs=>
    simp only[hb]at h
    cases hs:uq cs off n with
    |none=>
     simp only[hs]at h
     have:=SpB.whole (h _ (cx.2 rfl))
     rw[<-this,hb]
    |some p=>
     obtain⟨i,r⟩:=p
     simp only[hs]at h
     have h1:=h _ (cx.2 rfl)
     simp only at h1
     rw[hb]at h1
     rcases h1 with h1|⟨_,cs',ds,hc,hd,h2,h3⟩
     ·rw[<-h1]
     ·cases hc
      rw[hd]
      simp only[hs,xA h2 hs (fun k hk hk'=>h3 k hk (by rw[lenN_eq];exact hk'))]
   |_=>
    simp only[hb]at h
    have:=SpB.whole (h _ (cx.2 rfl))
    rw[<-this,hb]
  |ptrE b tg i off=>
   have hb:=ij.wholes (s:=s) (s':=s') (l:=rz true (.ptrE b tg i off)) (by simpa[pM,ht]using h) (b:=b) (qV (.inr (.inr (.inl ⟨tg,i,off,rfl⟩))))
   dsimp only;rw[hb]
  |_=>rfl
theorem D4 {t:TypeId}{x i:AV}(h:ij (Gh x) s s'):vk T s' t x i=vk T s t x i:=by
 cases x with
 |vec b=>simp only[vk,ij.wholes h (qV (.inl rfl))]
 |pre b n=>simp only[vk,ij.wholes h Dr]
 |_=>rfl
theorem Fu {t u:TypeId}{x:AV}(h:ij (wholes (rz true x)) s s')(hn:s'.n=s.n):DT T s' t u x=DT T s t u x:=by
 have hb:∀b,x= .vec b->s'.blk b=s.blk b:=fun b hx=>ij.wholes h (qV (.inl hx))
 unfold DT
 rw[hn]
 cases h1:T.get t with
 |none=>rfl
 |some ts=>
  cases h2:T.get u with
  |none=>rfl
  |some td=>
   dsimp only
   cases hd:td.d<;>cases x<;>(try dsimp only)<;>try rfl
   ·rename_i tg _;cases tg<;>rfl
   ·rw[hb _ rfl]
theorem Gx {t:TypeId}{m k:AV}{ok:Bool}(h:ij (wholes (rz true m)) s s'):BD T s' t m k ok=BD T s t m k ok:=by
 have hb:∀b,m= .mapr b->s'.blk b=s.blk b:=fun b hx=>ij.wholes h (qV (.inr (.inl hx)))
 unfold BD
 cases rt T t with
 |none=>rfl
 |some tg=>
  cases m with
  |mapr b=>
   cases k with
   |int j n=>cases j<;>first|rfl|(dsimp only;rw[hb b rfl])
   |_=>rfl
  |_=>rfl
theorem IM {d:TD}{x:AV}(h:ij (wholes (rz true x)) s s'):lenV s' d x=lenV s d x:=by
 have hb:∀b,x= .vec b->s'.blk b=s.blk b:=fun b hx=>ij.wholes h (qV (.inl hx))
 have hb2:∀b n,x= .pre b n->s'.blk b=s.blk b:=fun b n hx=>by subst hx;exact ij.wholes h Dr
 unfold lenV
 cases d<;>first|rfl|(cases x<;>first|rfl|(dsimp only;rw[hb _ rfl])|(dsimp only;rw[hb2 _ _ rfl]))
theorem Ez {t:TypeId}{x:AV}{lo hi mx:Option AV}(h:ij (wholes (rz true x)) s s'):xx T s' t x lo hi mx=xx T s t x lo hi mx:=by
 have hb:∀b,x= .vec b->s'.blk b=s.blk b:=fun b hx=>ij.wholes h (qV (.inl hx))
 unfold xx
 cases T.get t with
 |none=>rfl
 |some ti=>
  cases x with
  |vec b=>
   cases mx with
   |none=>dsimp only;rw[hb b rfl]
   |some _=>rfl
  |_=>cases mx<;>rfl
theorem IL {ts:List TypeId}{xs:List AV}(h:ij (wholes (kL true xs)) s s'):lenC T s' ts xs=lenC T s ts xs:=by
 unfold lenC
 split
 ·rename_i x t
  have hx:ij (wholes (rz true x)) s s':=by simpa[kL]using h
  split
  ·rw[IM hx]
  ·rfl
 ·rfl
theorem u9 {fs:Nat->Nat->Option Nat}:∀ {ps:List (Nat×Operand)} {cs:List AV},(∀p∈ps,s'.ev p.2=s.ev p.2)->zE fs s' cs ps=zE fs s cs ps
 |[],_,_=>rfl
 |(i,x)::r,cs,h=>by
  simp only[zE,h (i,x) (bq ..)]
  split
  ·split
   ·split
    ·exact u9 fun p hp=>h p (bt _ hp)
    ·rfl
   ·rfl
  ·rfl
theorem t3 {l:List Operand}(h:∀x∈l,s'.ev x=s.ev x):l.map s'.ev=l.map s.ev:=List.map_congr_left h
theorem vT {l:Option Operand}(h:∀x∈l,s'.ev x=s.ev x):l.map s'.ev=l.map s.ev:=by
 cases l with
 |none=>rfl
 |some x=>simp[h x rfl]
theorem sj {tg:Tag}:∀ {ps:List (Nat×Operand)} {i:Nat},(∀p∈ps,s'.ev p.2=s.ev p.2)->pC tg s' i ps=pC tg s i ps
 |[],_,_=>rfl
 |(j,x)::r,i,h=>by
  simp only[pC,h (j,x) (bq ..),sj (ps:=r) (i:=i+1) fun p hp=>h p (bt _ hp)]
theorem sf:∀ {ps:List (Nat×Operand)} {i:Nat},(∀p∈ps,s'.ev p.2=s.ev p.2)->cellsOf s' i ps=cellsOf s i ps
 |[],_,_=>rfl
 |(j,x)::r,i,h=>by
  simp only[cellsOf,h (j,x) (bq ..),sf (ps:=r) (i:=i+1) fun p hp=>h p (bt _ hp)]
theorem opN_loc {o:Oper}(hq:gt o.op=true)(he:∀x∈o.op.operands,s'.ev x=s.ev x)(h:ij (pR T s o) s s')(hn:s'.n=s.n):opN T s' o=opN T s o:=by
 unfold opN
 unfold pR at h
 cases hop:o.op<;>simp only[hop,Op.operands]at he h|- <;>rw[hop]at hq
 case call c=>
  unfold gt at hq
  dsimp only at hq
  split at hq<;>rename_i hc
  ·simp only[hc,Call.operands]at he|-
   rw[t3 (l:=c.args.toList) fun x hx=>he x (by simpa using hx)]
   exact IL h
  ·simp only[hc,Call.operands]at he|-
   rw[t3 (l:=c.args.toList) fun x hx=>he x (by simpa using hx)]
  ·simp only[hc,Call.operands]at he|-
   rw[t3 (l:=c.args.toList) fun x hx=>he x (by simpa using hx)]
  ·cases hq
 case move x=>rw[he x (by simp)]
 case assign x=>rw[he x (by simp)]
 case pick c a b=>rw[he c (by simp),he a (by simp),he b (by simp)]
 case build t ps=>
  unfold CF
  split
  ·split
   ·rw[u9 fun p hp=>he p.2 (by simpa using ⟨p.1,by simpa using hp⟩)]
   ·rfl
   ·rfl
  ·rfl
 case load t a=>rw[he a (by simp)];exact Gs h
 case nilCheck x=>rw[he x (by simp)]
 case binOp op t x y u=>rw[he x (by simp),he y (by simp)]
 case unOp op t x=>rw[he x (by simp)]
 case convert t u x=>rw[he x (by simp)];exact Fu h hn
 case makeFunc fn a c=>
  rw[t3 (l:=a.toList) fun x hx=>he x (by simp at hx;simp[hx]),t3 (l:=c.toList) fun x hx=>he x (by simp at hx;simp[hx])]
 case slice t x lo hi mx=>
  rw[he x (by simp),vT (l:=lo) fun y hy=>he y (by simp at hy;simp[hy]),vT (l:=hi) fun y hy=>he y (by simp at hy;simp[hy]),vT (l:=mx) fun y hy=>he y (by simp at hy;simp[hy])]
  exact Ez h
 case fieldAddr t x f=>rw[he x (by simp)]
 case indexAddr t x i=>rw[he x (by simp),he i (by simp)];exact D4 h
 case index t x i=>rw[he x (by simp),he i (by simp)]
 case extract x i=>rw[he x (by simp)]
 case lookup t m k ok=>rw[he m (by simp),he k (by simp)];exact Gx h
 case alloc t=>simp only[Cy,hn]
 case box t x=>simp only[boxC,hn,he x (by simp)]
 case buildSlice t n ps=>
  have hp:∀p∈ps.toList,s'.ev p.2=s.ev p.2:=fun p hp=>he p.2 (by simpa using ⟨p.1,by simpa using hp⟩)
  unfold oV
  simp only[hn,sf hp,fun tg=>sj (tg:=tg) (i:=0) hp]
 case makeSlice t l c=>simp only[he l (by simp),he c (by simp),IT,hn]
 case makeMap t r=>cases r<;>simp only[uA,hn]
 all_goals cases hq
end
end Go.Den
namespace Go.Den
structure SameH (s s':St):Prop where
 blk:s'.blk=s.blk
 n:s'.n=s.n
 np:s'.np=s.np
 al:s'.al=s.al
theorem SameH.refl (s:St):SameH s s:=⟨rfl,rfl,rfl,rfl⟩
theorem zk {b:Nat}:∀(u:List (Nat×WU)) (h h':List (Nat×Blk)),lG h' b=lG h b->lG (cF u h') b=lG (cF u h) b
 |[],_,_,e=>e
 |(c,w)::u,h,h',e=>by
  rw[rE,rE]
  refine zk u _ _ ?_
  have hl:∀h:List (Nat×Blk),lG ((c,w.app (lG h c))::h) b=if c=b then w.app (lG h c)else lG h b:=fun h=>by
   simp only[lG,look_cons]
   by_cases hb:c=b
   ·rw[aa hb,aa hb]
   ·rw[ae hb,ae hb]
  rw[hl,hl]
  by_cases hb:c=b
  ·rw[aa hb,aa hb];subst hb;rw[e]
  ·rw[ae hb,ae hb];exact e
theorem oE (s:St)(d:Option Tmp)(e:Eff)(b:Nat):(s.apply d e).blk b=if s.n<=b/\b<s.n+e.new.length then(e.new[b-s.n]?).getD .gone else lG (cF e.upd s.h) b:=by
 simp only[St.apply,gV]
 simp only[zp,lG,jr]
 by_cases h:s.n<=b/\b<s.n+e.new.length
 ·rw[aa h,aa h];cases e.new[b-s.n]? <;>rfl
 ·rw[ae h,ae h]
theorem CA {s s':St}(hn:s'.n=s.n){b:Nat}(h:s'.blk b=s.blk b)(d d':Option Tmp)(e:Eff):(s'.apply d' e).blk b=(s.apply d e).blk b:=by
 rw[oE,oE,hn,zk e.upd s.h s'.h h]
theorem SameH.apply {s s':St}(h:SameH s s')(d:Option Tmp)(e:Eff):SameH (s.apply d e) (s'.apply d e):=
 ⟨funext fun b=>CA h.n (congrFun h.blk b) _ _ _,by simp only[mZ,h.n],by simp only[mh,h.np],by simp only[mf,h.al]⟩
section
variable {E:Tr Sem1}{T:Tr TI}{s s':St}
theorem Al {o:Oper}(hq:gt o.op=true):tT o.op=none:=by
 unfold tT
 split
 ·rename_i c hop
  rw[hop]at hq
  split
  ·rename_i f hc
   simp only[gt,hc]at hq
   cases hq
  ·rfl
 ·rfl
theorem opC_opN {o:Oper}{asks:List Bool}{e:Eff}(hq:tT o.op=none):opC E T s o= .ret asks e↔opN T s o= .ret asks e:=by
 unfold opC
 rw[hq]
 dsimp only
 unfold Dd
 split
 ·rename_i h;rw[h];simp
 ·exact Iff.rfl
end
end Go.Den
namespace Go.Den
structure MoreH (s s':St):Prop where
 blk:∀b,s.blk b≠ .gone->s'.blk b=s.blk b
 n:s'.n=s.n
 np:s'.np=s.np
 al:s'.al=s.al
theorem oN {own:Bool}{b:Nat}:∀ {l:List AV} {a:AV},a∈l->b∈rz own a->b∈kL own l
 |[],_,h,_=>by cases h
 |c::l,a,h,hb=>by
  simp only[kL]
  rcases aN.1 h with rfl|h
  ·exact iw _ hb
  ·exact gb _ (oN h hb)
theorem xf {own:Bool}{b:Nat}:∀ {l:List AV},b∈kL own l->∃a∈l,b∈rz own a
 |[],h=>by simp[kL]at h
 |c::l,h=>by
  simp only[kL]at h
  rcases jc.1 h with h|h
  ·exact⟨c,bq ..,h⟩
  ·obtain⟨a,h1,h2⟩:=xf h
   exact⟨a,bt _ h1,h2⟩
section
variable {E:Tr Sem1}{T:Tr TI}{s s':St}
theorem MoreH.allowed (h:MoreH s s')(b lo hi:Nat):Go.Den.allowed s' b lo hi=Go.Den.allowed s b lo hi:=by simp only[Go.Den.allowed,h.np,h.al]
theorem Ck (h:MoreH s s'){t:TypeId}{a v:AV}(hb:∀b∈rz true a,s'.blk b=s.blk b):sJ T s' t a v=sJ T s t a v:=by
 cases a with
 |ptr b o=>have:=hb b (by simp[rz]);simp only[sJ,this,okW,h.allowed]
 |ptrI b o n i=>have:=hb b (by simp[rz]);simp only[sJ,this,h.allowed]
 |ptrE b tg i o=>have:=hb b (by simp[rz]);simp only[sJ,this,h.allowed]
 |_=>simp only[sJ]
theorem t8 (h:MoreH s s'){t:TypeId}{m k v:AV}(hb:∀b∈rz true m,s'.blk b=s.blk b):tO T s' t m k v=tO T s t m k v:=by
 unfold tO
 cases rt T t with
 |none=>rfl
 |some tg=>
  cases m with
  |mapr b=>
   have:=hb b (by simp[rz])
   cases k with
   |int j n=>cases j<;>first|rfl|(dsimp only;rw[this];simp only[h.allowed])
   |_=>rfl
  |_=>rfl
theorem BH {tg:Tag}{d:TD}{y:AV}(hb:∀b∈rz true y,s'.blk b=s.blk b):xg s' tg d y=xg s tg d y:=by
 unfold xg
 cases d<;>first|rfl|(cases y<;>first|rfl|(dsimp only;rw[hb _ (by simp[rz])]))
theorem Fd (h:MoreH s s'){ts:List TypeId}{xs:List AV}(hb:∀x∈xs,∀b∈rz true x,s'.blk b=s.blk b):appC T s' ts xs=appC T s ts xs:=by
 unfold appC
 split
 ·rename_i x y
  have hx:=hb x (by simp)
  have hy:=hb y (by simp)
  unfold xO
  split
  ·split
   ·split
    ·split
     ·split
      ·rename_i tg _
       rw[BH hy]
       split
       ·cases x with
        |vec b=>dsimp only;rw[hx b (by simp[rz])];simp only[h.n,h.allowed]
        |nils=>simp only[h.n]
        |_=>rfl
       ·rfl
      ·rfl
     ·rfl
    ·rfl
   ·rfl
  ·rfl
 ·rfl
theorem A6 (h:MoreH s s'){ts:List TypeId}{xs:List AV}(hx:∀x∈xs,∀b∈rz true x,s'.blk b=s.blk b):wK T s' ts xs=wK T s ts xs:=by
 unfold wK
 split
 ·rename_i t b n
  rw[hx (.suf b n) (by simp) b (by simp[rz])]
  simp only[h.allowed]
 ·rfl
theorem I8 (h:MoreH s s'){o:Oper}(hq:gt o.op=false)(he:∀x∈o.op.operands,s'.ev x=s.ev x)(hb:∀b∈kL true (o.op.operands.toList.map s.ev),s'.blk b=s.blk b):opN T s' o=opN T s o:=by
 have hb':∀x∈o.op.operands,∀b∈rz true (s.ev x),s'.blk b=s.blk b:=fun x hx b hm=>hb b (oN (gR.2 ⟨x,by simpa using hx,rfl⟩) hm)
 unfold opN
 cases hop:o.op<;>simp only[hop,Op.operands]at he hb'<;>rw[hop]at hq
 case call c=>
  dsimp only
  split<;>rename_i hc
  ·simp only[gt,hc]at hq;cases hq
  ·simp only[Call.operands,hc]at he hb'
   rw[t3 (l:=c.args.toList) fun x hx=>he x (by simpa using hx)]
   exact Fd h fun x hx b hm=>by
    obtain⟨y,hy,rfl⟩:=gR.1 hx
    exact hb' y (by simpa using hy) b hm
  ·simp only[Call.operands,hc]at he hb'
   rw[t3 (l:=c.args.toList) fun x hx=>he x (by simpa using hx)]
   exact A6 h fun x hx b hm=>by
    obtain⟨y,hy,rfl⟩:=gR.1 hx
    exact hb' y (by simpa using hy) b hm
  ·simp only[gt,hc]at hq;cases hq
  ·simp only[gt,hc]at hq;cases hq
  ·rfl
 case store t a x=>simp only[he a (by simp),he x (by simp)];exact Ck h fun b hm=>hb' a (by simp) b hm
 case insert t m k x=>simp only[he m (by simp),he k (by simp),he x (by simp)];exact t8 h fun b hm=>hb' m (by simp) b hm
 case mapUpdate t m k x=>simp only[he m (by simp),he k (by simp),he x (by simp)];exact t8 h fun b hm=>hb' m (by simp) b hm
 all_goals first|rfl|(cases hq;done)
theorem v5 (blk:Nat->Blk):∀(f:Nat) (l acc:List Nat) (b:Nat),b∈acc->b∈pf blk f l acc
 |0,_,_,_,h=>h
 |_+1,[],_,_,h=>h
 |f+1,c::l,acc,b,h=>by
  simp only[pf]
  split
  ·exact v5 blk f l acc b h
  ·exact v5 blk f _ _ b (iw _ h)
theorem rR {blk blk':Nat->Blk}:∀(f:Nat) (l acc:List Nat),(∀b∈pf blk f l acc,blk' b=blk b)->pf blk' f l acc=pf blk f l acc
 |0,_,_,_=>rfl
 |_+1,[],_,_=>rfl
 |f+1,c::l,acc,h=>by
  simp only[pf]at h|-
  split
  ·rename_i e;rw[e]at h;exact rR f l acc h
  ·rename_i e
   rw[e]at h
   have:blk' c=blk c:=h c (v5 blk f _ _ c (gb _ (cx.2 rfl)))
   rw[this]
   exact rR f _ _ h
theorem t5 {blk blk':Nat->Blk}:∀ {l:List Nat},(∀b∈l,blk' b=blk b)->vR blk' l=vR blk l
 |[],_=>rfl
 |b::r,h=>by simp only[vR,h b (bq ..),t5 fun c hc=>h c (bt _ hc)]
theorem Ak {blk blk':Nat->Blk}{S:List Nat}(h:∀b∈S,blk' b=blk b):kP S blk'=kP S blk:=by
 funext b
 unfold kP
 split
 ·rename_i e;exact h b (jn.1 e)
 ·rfl
theorem tR {σ:Nat->Option Nat}{u blk blk':Nat->Blk}:∀ {l:List Nat},(∀b∈l,blk' b=blk b)->gx σ u blk' l=gx σ u blk l
 |[],_=>rfl
 |b::r,h=>by simp only[gx,h b (bq ..),tR fun c hc=>h c (bt _ hc)]
theorem uV {wr:List (Nat×Nat×Nat)}{blk blk':Nat->Blk}:∀ {js:List Nat} {i:Nat} {bs:List Blk},(∀b∈js,blk' b=blk b)->tj wr blk' i js bs=tj wr blk i js bs
 |[],i,bs,_=>by cases bs<;>rfl
 |j::js,i,[],_=>rfl
 |j::js,i,b::bs,h=>by
  simp only[tj,h j (bq ..),uV (js:=js) (i:=i+1) (bs:=bs) fun c hc=>h c (bt _ hc)]
theorem vf {blk blk':Nat->Blk}:∀ {l:List Nat},(∀b∈l,blk' b=blk b)->pF blk' l=pF blk l
 |[],_=>rfl
 |b::r,h=>by simp only[pF,h b (bq ..),vf fun c hc=>h c (bt _ hc)]
theorem oP (h:MoreH s s'):∀ {u:List (Nat×WU)},(∀x∈u,s'.blk x.1=s.blk x.1)->qf s' u=qf s u
 |[],_=>rfl
 |(b,.blk _)::r,hu=>by simp only[qf,h.allowed,oP h fun x hx=>hu x (bt _ hx)]
 |(b,.set k _)::r,hu=>by
  simp only[qf,okW,hu _ (bq ..),h.allowed,oP h fun x hx=>hu x (bt _ hx)]
theorem nL:∀ {u v:List (Nat×WU)},qf s (u++v)=(qf s u&&qf s v)
 |[],_=>rfl
 |(b,.blk _)::r,v=>by simp only[ol,qf,nL (u:=r),qG]
 |(b,.set k _)::r,v=>by simp only[ol,qf,nL (u:=r),qG]
theorem Bm {blk:Nat->Blk}:∀ {l:List Nat} {x:Nat×WU},x∈pF blk l->x.1∈l
 |[],_,h=>by simp[pF]at h
 |b::r,x,h=>by
  simp only[pF]at h
  split at h
  ·rcases aN.1 h with rfl|h
   ·exact bq ..
   ·exact bt _ (Bm h)
  ·exact bt _ (Bm h)
theorem FR (h:MoreH s s')(m:Sem1){keep S:List Nat}(hk:∀b∈keep,s'.blk b=s.blk b)(hS:∀b∈S,s'.blk b=s.blk b):finC m s' keep S=finC m s keep S:=by
 funext r hs
 unfold finC
 rw[uV hk,h.n,vf hS]
 split
 ·rename_i u hu _
  have hu':∀x∈u,s'.blk x.1=s.blk x.1:=fun x hx=>hk _ (sc _ _ _ _ hu x hx)
  rw[oP h hu',nL,nL,oP h hu',oP h fun x hx=>hS _ (Bm hx)]
 ·rfl
theorem qP {keep:List Nat}:∀ {l:List Nat} {b:Nat},b∈kH keep l->b∈l
 |[],b,h=>by simp[kH]at h
 |a::r,b,h=>by
  simp only[kH]at h
  split at h
  ·exact bt _ (qP h)
  ·split at h
   ·exact bt _ (qP h)
   ·rcases aN.1 h with rfl|h
    ·exact bq ..
    ·exact bt _ (qP h)
theorem BF {n:Nat}:∀ {l:List Nat} {b:Nat},b∈ltN n l->b∈l
 |[],b,h=>by simp[ltN]at h
 |a::r,b,h=>by
  simp only[ltN]at h
  split at h
  ·rcases aN.1 h with rfl|h
   ·exact bq ..
   ·exact bt _ (BF h)
  ·exact bt _ (BF h)
theorem DQ (h:MoreH s s'){f:FuncId}{args:List AV}(hb:∀b∈kL true args,s'.blk b=s.blk b)(hr:A5 E s f args≠ .none):A5 E s' f args=A5 E s f args:=by
 unfold A5 at hr|-
 split
 ·rfl
 ·rename_i m hm
  rw[hm]at hr
  dsimp only at hr
  unfold H8 at hr|-
  split at hr
  ·rename_i hok
   have hk:∀b∈pf s.blk 60 (kL m.own args) [],s'.blk b=s.blk b:=fun b hb=>h.blk b ((rP hok).1 b hb)
   rw[rR 60 _ [] hk,t5 hk,h.n]
   have hS:∀b∈kH (pf s.blk 60 (kL m.own args) []) (ltN s.n (kL true args)),s'.blk b=s.blk b:=fun b hm=>hb b (BF (qP hm))
   rw[Ak hS,tR hk,FR h m hk hS,hok]
  ·exact ah rfl hr
theorem I7 (h:MoreH s s'){o:Oper}(hq:gt o.op=false)(he:∀x∈o.op.operands,s'.ev x=s.ev x)(hs:∀b∈kL true (o.op.operands.toList.map s.ev),s'.blk b=s.blk b)(hr:opC E T s o≠ .none):opC E T s' o=opC E T s o:=by
 unfold opC at hr|-
 split
 ·rename_i f args hc
  rw[hc]at hr
  dsimp only at hr
  have hops:∀x,x=f\/x∈args->x∈o.op.operands:=by
   unfold tT at hc
   split at hc
   ·rename_i c hop
    split at hc
    ·rename_i g hcal
     obtain⟨rfl,rfl⟩:=Prod.mk.inj (aw hc)
     rw[hop]
     intro x hx
     simp only[Op.operands,Call.operands,hcal]
     rcases hx with rfl|hx
     ·simp
     ·simp at hx;simp[hx]
    ·cases hc
   ·cases hc
  rw[he f (hops f (.inl rfl)),t3 fun x hx=>he x (hops x (.inr hx))]
  unfold H9 at hr|-
  split
  ·rename_i g first cap hf
   rw[hf]at hr
   refine DQ h (fun b hb=>?_) hr
   obtain⟨a,ha,hb⟩:=xf hb
   have hfm:∀a,a∈first\/a∈cap->∀b∈rz true a,s'.blk b=s.blk b:=fun a ha b hb=>by
    refine hs b (oN (gR.2 ⟨f,by simpa using hops f (.inl rfl),rfl⟩) ?_)
    rw[hf]
    simp only[rz]
    rcases ha with ha|ha
    ·exact iw _ (oN ha hb)
    ·exact gb _ (oN ha hb)
   rcases jc.1 ha with ha|ha
   ·exact hfm a (.inl ha) b hb
   ·rcases jc.1 ha with ha|ha
    ·obtain⟨x,hx,rfl⟩:=gR.1 ha
     exact hs b (oN (gR.2 ⟨x,by simpa using hops x (.inr hx),rfl⟩) hb)
    ·exact hfm a (.inr ha) b hb
  ·rfl
 ·rw[I8 h hq he hs]
end
end Go.Den
namespace Go.Den
open Go.RowKit (Below)
inductive Bef (ops:List Oper):Nat->Nat->Prop
 |edge {i j:Nat} {o:Oper} (h:ops[j]? =some o) (he:i∈eU o):Bef ops i j
 |step {i e j:Nat} {o:Oper} (h:ops[j]? =some o) (he:e∈eU o) (hb:Bef ops i e):Bef ops i j
def tQ (ops:List Oper)(S:Nat->Prop):Prop:=∀j,S j->∀o,ops[j]? =some o->∀e∈eU o,S e
theorem Bef.closed {ops:List Oper}{S:Nat->Prop}(hS:tQ ops S){i j:Nat}(h:Bef ops i j):S j->S i:=by
 induction h with
 |edge h he=>exact fun hj=>hS _ hj _ h _ he
 |step h he _ ih=>exact fun hj=>ih (hS _ hj _ h _ he)
theorem sD {ops:List Oper}:∀(r:List Oper) (acc:List (List Nat)),acc.length+r.length=ops.length->(∀k,r[k]? =ops[acc.length+k]? \/r.length<=k)->
  (∀j l,acc[j]? =some l->∀i∈l,Bef ops i j)->∀j l,(dm r acc)[j]? =some l->∀i∈l,Bef ops i j
 |[],_,_,_,hacc=>hacc
 |o::r,acc,hlen,hr,hacc=>by
  rw[dm]
  have ho:ops[acc.length]? =some o:=by
   rcases hr 0 with h|h
   ·exact h.symm
   ·simp at h
  refine sD r _ (by simp only[ch,fa,kA]at hlen|-;omega) (fun k=>?_) ?_
  ·rcases hr (k+1)with h|h
   ·left
    simp only[qp]at h
    rw[h]
    simp only[ch,fa,kA]
    congr 1;omega
   ·right;simp only[fa]at h;omega
  ·intro j l hj i hi
   by_cases hlt:j<acc.length
   ·rw[lB hlt]at hj
    exact hacc j l hj i hi
   ·rw[mQ (by omega)]at hj
    by_cases he:j=acc.length
    ·subst he
     simp only[jd,oB,Option.some.injEq]at hj
     subst hj
     rcases jc.1 hi with hi|hi
     ·exact .edge ho hi
     ·obtain⟨e,he,hie⟩:=List.mem_flatMap.1 hi
      split at hie
      ·rename_i l' hl'
       rw[nth_eq]at hl'
       exact .step ho he (hacc _ _ hl' _ hie)
      ·simp at hie
    ·have:j-acc.length≠0:=by omega
     obtain⟨q,hq⟩:=Nat.exists_eq_succ_of_ne_zero this
     rw[hq]at hj
     simp at hj
theorem vX {ops:List Oper}{i j:Nat}(h:(match nth (dm ops []) j with|some l=>sM l i|none=>false)=true):Bef ops i j:=by
 split at h
 ·rename_i l hl
  rw[nth_eq]at hl
  exact sD ops [] (by simp) (fun k=> .inl (by simp)) (by simp) j l hl i (jn.1 h)
 ·cases h
theorem vY {ops:List Oper}{i j:Nat}(h:sM (match nth (dm ops []) j with|some p=>p|none=>[]) i=true):Bef ops i j:=by
 refine vX ?_
 split at h
 ·exact h
 ·cases h
structure SlotsOK (ops:List Oper):Prop where
 lt:∀(j:Nat) (o:Oper),ops[j]? =some o->∀e∈eU o,e<j
 dst:∀(i j:Nat) (p o:Oper) (d:Tmp),ops[i]? =some p->ops[j]? =some o->p.dst=some d->o.dst=some d->i=j
 ord:∀(i j:Nat) (p o:Oper) (d:Tmp),ops[i]? =some p->ops[j]? =some o->p.dst=some d->d∈k7 ops o->Bef ops i j\/Bef ops j i
theorem sI {ops:List Oper}{prs:List (List Nat)}{j:Nat}{o:Oper}:∀ {r:List Oper} {i:Nat},sH ops prs j o i r=true->∀k p,r[k]? =some p->AF ops prs j o (i+k) p=true
 |[],_,_,k,p,hp=>by simp at hp
 |q::r,i,h,k,p,hp=>by
  simp only[sH,ar]at h
  cases k with
  |zero=>simp only[oB,Option.some.injEq]at hp;subst hp;exact h.1
  |succ k=>have:=sI h.2 k p (by simpa using hp);rwa [show i+1+k=i+(k+1)by omega]at this
theorem qc {ops:List Oper}{prs:List (List Nat)}:∀ {r:List Oper} {j:Nat},wh ops prs j r=true->∀k o,r[k]? =some o->(∀e∈eU o,e<j+k)/\sH ops prs (j+k) o 0 ops=true
 |[],_,_,k,o,ho=>by simp at ho
 |q::r,j,h,k,o,ho=>by
  simp only[wh,ar]at h
  cases k with
  |zero=>
   simp only[oB,Option.some.injEq]at ho;subst ho
   refine⟨fun e he=>?_,h.2.2.1⟩
   have:=fc.1 h.1 e he
   rwa [gO]at this
  |succ k=>have:=qc h.2.2.2 k o (by simpa using ho);rwa [show j+1+k=j+(k+1)by omega]at this
theorem SlotsOK.of {ops:List Oper}(h:wh ops (dm ops []) 0 ops=true):SlotsOK ops:=by
 have key:∀i j p o,ops[i]? =some p->ops[j]? =some o->AF ops (dm ops []) j o i p=true:=fun i j p o hi hj=>by
  have:=(qc h j o hj).2
  have:=sI this i p hi
  simpa using this
 refine⟨fun j o hj e he=>?_,fun i j p o d hi hj hp ho=>?_,fun i j p o d hi hj hp hd=>?_⟩
 ·have:=(qc h j o hj).1 e he;omega
 ·have:=key i j p o hi hj
  simp only[AF,hp,ho,ar,cO]at this
  rcases this.1 with h|h
  ·exact j4.1 h
  ·rw[j4.2 rfl]at h;cases h
 ·have:=key i j p o hi hj
  simp only[AF,hp,ar,cO]at this
  rcases this.2 with h|h|h
  ·rw[jn.2 hd]at h;cases h
  ·exact .inl (vX h)
  ·exact .inr (vX h)
theorem t7 {ops:List Oper}{o:Oper}{t:Tmp}(h: .tmp t∈o.op.operands):t∈k7 ops o:=
 iw _ (List.mem_filterMap.2 ⟨.tmp t,by simpa using h,rfl⟩)
theorem EA {ops:List Oper}{o:Oper}{j:Nat}{want:Bool}{d:Tmp}(hg:o.guard=some (j,want))(hd:ui ops j=some d):d∈k7 ops o:=
 gb _ (by rw[hg];simp only[hd];exact cx.2 rfl)
theorem FJ {s s':St}{o:Oper}(h:∀t,.tmp t∈o.op.operands->s'.get t=s.get t):∀x∈o.op.operands,s'.ev x=s.ev x:=fun x hx=>by
 cases x with
 |tmp t=>exact h t hx
 |_=>rfl
def eN (ops:List Oper)(o:Oper)(tv:Tmp->AV)(b:Bool):Prop:=match o.guard with
 |none=>b=true
 |some (j,want)=>∃d,ui ops j=some d/\(tv d= .bool (b==want)\/(b=false/\tv d= .tup []))
def St.atN (s:St)(n:Nat):St:={s with n:=n}
structure PRun (ops:List Oper)(T:Tr TI)(s:St)(qs:List EL)(ms:List (Nat×Nat))(i:Nat)(o:Oper)(tv:Tmp->AV)(q:EL)(asks:List Bool)(v:AV)(r:Nat)(nw:List Blk):Prop where
 mem:q∈qs
 ix:q.1=i
 lt:∀x∈q.2.2,x.1<s.n
 vis:∀x∈q.2.2,∀m,(x.1,m)∈ms->Bef ops m i
 hask:∀b∈asks,b=true
 res:∀s2,s2.n=r->ij q.2.2 s s2->(∀t,.tmp t∈o.op.operands->s2.get t=tv t)->opN T s2 o= .ret asks ⟨v,[],nw⟩
 dst:∀d,o.dst=some d->s.get d=v
 new:(nw=[]/\∀b,(b,i)∉ms)\/∃nb,nw=[nb]/\(r,i)∈ms/\s.blk r=nb
structure Pend (ops:List Oper)(T:Tr TI)(s s0:St)(qs:List EL)(ms:List (Nat×Nat))(i:Nat)(o:Oper)(tv:Tmp->AV):Prop where
 nc:tT o.op=none
 view1:∀x∈k7 ops o,∀p op,Bef ops p i->ops[p]? =some op->op.dst=some x->tv x=s.get x
 view0:∀x∈k7 ops o,(∀p op,Bef ops p i->ops[p]? =some op->op.dst≠some x)->tv x=s0.get x
 run:(eN ops o tv true/\∃q asks v r nw,PRun ops T s qs ms i o tv q asks v r nw)\/(o.guard≠none/\eN ops o tv false/\(∀b,(b,i)∉ms)/\∀d,o.dst=some d->s.get d= .tup [])
def Hid (ms:List (Nat×Nat))(L:Nat->Prop)(b:Nat):Prop:=∃m,(b,m)∈ms/\¬L m
structure HRel (s sp:St)(R:Nat->Prop):Prop where
 np:sp.np=s.np
 al:sp.al=s.al
 off:∀b,R b->sp.blk b= .gone
 on:∀b,¬R b->sp.blk b=s.blk b
structure DInv (ops:List Oper)(T:Tr TI)(s0:St)(L U:Nat->Prop)(dn:List Nat)(qs:List EL)(ms:List (Nat×Nat))(l:List IOp)(s sp:St):Prop where
 nd:(l.map (·.1)).Nodup
 hl1:∀x∈l,ops[x.1]? =some x.2/\x.1∉dn
 hl2:∀i o,ops[i]? =some o->i∈dn\/(i,o)∈l
 dnE:tQ ops (· ∈dn)
 lsE:tQ ops L
 sub:∀i,L i->i∈dn
 old:∀x,(∀i∈dn,∀o,ops[i]? =some o->o.dst≠some x)->s.get x=s0.get x
 sp1:∀x i o,L i->ops[i]? =some o->o.dst=some x->sp.get x=s.get x
 sp2:∀x,(∀i o,L i->ops[i]? =some o->o.dst≠some x)->sp.get x=s0.get x
 same:HRel s sp (Hid ms L)
 nu:∀b,Hid ms L b->¬U b
 msL:∀b m,(b,m)∈ms->b<s.n/\m∈dn/\m<ops.length
 msF:∀b m m',(b,m)∈ms->(b,m')∈ms->m=m'
 msI:∀b b' m,(b,m)∈ms->(b',m)∈ms->b=b'
 pend:∀i∈dn,¬L i->∀o,ops[i]? =some o->∃tv,Pend ops T s s0 qs ms i o tv
section
variable {ops:List Oper}{T:Tr TI}{s s1 s0 sp:St}{L U:Nat->Prop}{dn:List Nat}{qs qs1:List EL}{ms ms1:List (Nat×Nat)}{l:List IOp}
theorem Pend.mono {i:Nat}{o:Oper}{tv:Tmp->AV}(h:Pend ops T s s0 qs ms i o tv)(hi:i∈dn)(ho:ops[i]? =some o)(hc:tQ ops (· ∈dn))
  (hg:∀y k ok,k∈dn->ops[k]? =some ok->ok.dst=some y->s1.get y=s.get y) (hA:∀q∈qs,q.1=i->(∀x∈q.2.2,x.1<s.n)->ij q.2.2 s s1) (hn:s.n<=s1.n) (hq:∀q∈qs,q∈qs1)
  (hB:∀b,(b,i)∈ms->s1.blk b=s.blk b) (hm:∀b m,(b,m)∈ms->(b,m)∈ms1) (hm1:∀b m,(b,m)∈ms1->(b,m)∈ms\/(b=s.n/\m≠i)):Pend ops T s1 s0 qs1 ms1 i o tv where
 nc:=h.nc
 view1 x hx p op hb hp hd:=by rw[hg x p op (hb.closed hc hi) hp hd];exact h.view1 x hx p op hb hp hd
 view0:=h.view0
 run:=by
  have hno:(∀b,(b,i)∉ms)->∀b,(b,i)∉ms1:=fun h b hb=>(hm1 b i hb).elim (h b) fun e=>e.2 rfl
  rcases h.run with ⟨h1,q,asks,v,r,nw,h2⟩|⟨h1,h2,h3,h4⟩
  ·refine .inl ⟨h1,q,asks,v,r,nw,hq q h2.mem,h2.ix,fun x hx=>dB (h2.lt x hx) hn,fun x hx m hxm=>?_,h2.hask,fun s2 hs2 ha=>h2.res s2 hs2 ((hA q h2.mem h2.ix h2.lt).trans ha),
    fun d hd=>by rw[hg d i o hi ho hd];exact h2.dst d hd,?_⟩
   ·rcases hm1 _ _ hxm with hxm|⟨e,_⟩
    ·exact h2.vis x hx m hxm
    ·exact ah (h2.lt x hx) (by omega)
   ·rcases h2.new with ⟨e1,e2⟩|⟨nb,e1,e2,e3⟩
    ·exact .inl ⟨e1,hno e2⟩
    ·exact .inr ⟨nb,e1,hm _ _ e2,by rw[hB _ e2];exact e3⟩
  ·exact .inr ⟨h1,h2,hno h3,fun d hd=>by rw[hg d i o hi ho hd];exact h4 d hd⟩
theorem HRel.of_same {R:Nat->Prop}(h:HRel s sp R)(hh:SameH s s1):HRel s1 sp R:=
 ⟨h.np.trans hh.np.symm,h.al.trans hh.al.symm,h.off,fun b hb=>by rw[hh.blk];exact h.on b hb⟩
theorem DInv.eqv (h:DInv ops T s0 L U dn qs ms l s sp)(hg:∀x,s1.get x=s.get x)(hh:SameH s s1):DInv ops T s0 L U dn qs ms l s1 sp where
 nd:=h.nd
 hl1:=h.hl1
 hl2:=h.hl2
 dnE:=h.dnE
 lsE:=h.lsE
 sub:=h.sub
 old x hx:=(hg x).trans (h.old x hx)
 sp1 x i o hi ho hd:=(h.sp1 x i o hi ho hd).trans (hg x).symm
 sp2:=h.sp2
 same:=h.same.of_same hh
 nu:=h.nu
 msL b m hb:=by rw[hh.n];exact h.msL b m hb
 msF:=h.msF
 msI:=h.msI
 pend i hi hL o ho:=by
  obtain⟨tv,hp⟩:=h.pend i hi hL o ho
  exact⟨tv,hp.mono hi ho h.dnE (fun y _ _ _ _ _=>hg y) (fun q _ _ _=>ij.of_blk hh.blk) (by rw[hh.n];exact bV _) (fun q hq=>hq) (fun b _=>congrFun hh.blk b) (fun _ _ h=>h) fun _ _ h=> .inl h⟩
theorem tQ.cons (hc:tQ ops (· ∈dn)){i:Nat}{o:Oper}(ho:ops[i]? =some o)(he:∀e∈eU o,e∈dn):tQ ops (· ∈i::dn):=fun j hj p hp e hep=>by
 rcases aN.1 hj with rfl|hj
 ·rw[ho]at hp;cases hp
  exact bt _ (he e hep)
 ·exact bt _ (hc j hj p hp e hep)
theorem DInv.quiet (hS:SlotsOK ops)(h:DInv ops T s0 L U dn qs ms l s sp){p q:List IOp}{i:Nat}{o:Oper}(hl:l=p++(i,o)::q)(he:∀e∈eU o,e∈dn){v:AV}
  (hg:∀x,s1.get x=if o.dst=some x then v else s.get x) (hb:∀b,b<s.n->s1.blk b=s.blk b) (hnp:s1.np=s.np) (hal:s1.al=s.al) (hq:∀q∈qs,q∈qs1)
  (hnew:(ms1=ms/\s1.n=s.n/\s1.blk=s.blk)\/(ms1=(s.n,i)::ms/\s1.n=s.n+1/\(∀b,b≠s.n->s1.blk b=s.blk b))) (hU:∀b,s.n<=b->¬U b/\sp.blk b= .gone)
  (hp:∃tv,Pend ops T s1 s0 qs1 ms1 i o tv):DInv ops T s0 L U (i::dn) qs1 ms1 (p++q) s1 sp:=by
 subst hl
 obtain⟨ho,hi⟩:=h.hl1 (i,o) (by simp)
 have hnd:=h.nd
 simp only[iy,jQ]at hnd
 rw[List.perm_middle.nodup_iff,mA]at hnd
 have hLi:¬L i:=fun hl=>hi (h.sub i hl)
 have hn:s.n<=s1.n:=by rcases hnew with ⟨_,e,_⟩|⟨_,e,_⟩<;>omega
 have hold:∀y k ok,k∈dn->ops[k]? =some ok->ok.dst=some y->s1.get y=s.get y:=fun y k ok hk hok hd=>by
  rw[hg,ae]
  intro hd'
  have:=hS.dst k i ok o y hok ho hd hd'
  exact hi (this▸hk)
 have hm:∀b m,(b,m)∈ms->(b,m)∈ms1:=fun b m hbm=>by
  rcases hnew with ⟨e,_⟩|⟨e,_⟩<;>rw[e]
  ·exact hbm
  ·exact bt _ hbm
 have hm1:∀b m,(b,m)∈ms1->(b,m)∈ms\/(b=s.n/\m=i):=fun b m hbm=>by
  rcases hnew with ⟨e,_⟩|⟨e,_⟩<;>rw[e]at hbm
  ·exact .inl hbm
  ·rcases aN.1 hbm with e|hbm
   ·cases e;exact .inr ⟨rfl,rfl⟩
   ·exact .inl hbm
 refine⟨by rw[iy];exact hnd.2,fun x hx=>?_,fun j oj hj=>?_,h.dnE.cons ho he,h.lsE,fun j hj=>bt _ (h.sub j hj),fun x hx=>?_,fun x j oj hj hoj hd=>?_,h.sp2,?_,fun b hb=>?_,fun b m hbm=>?_,fun b m m' h1 h2=>?_,fun b b' m h1 h2=>?_,fun j hj hL oj hoj=>?_⟩
 ·have hx':x∈p++(i,o)::q:=by
   rcases jc.1 hx with hx|hx
   ·exact iw _ hx
   ·exact gb _ (bt _ hx)
  obtain⟨h1,h2⟩:=h.hl1 x hx'
  refine⟨h1,fun hm=>?_⟩
  rcases aN.1 hm with hm|hm
  ·exact hnd.1 (by rw[<-iy];exact gR.2 ⟨x,hx,hm⟩)
  ·exact h2 hm
 ·rcases h.hl2 j oj hj with h1|h1
  ·exact .inl (bt _ h1)
  ·rcases jc.1 h1 with h1|h1
   ·exact .inr (iw _ h1)
   ·rcases aN.1 h1 with h1|h1
    ·cases h1;exact .inl (bq ..)
    ·exact .inr (gb _ h1)
 ·rw[hg,ae (hx i (bq ..) o ho)]
  exact h.old x fun j hj oj hoj=>hx j (bt _ hj) oj hoj
 ·rw[hold x j oj (h.sub j hj) hoj hd];exact h.sp1 x j oj hj hoj hd
 ·refine⟨h.same.np.trans hnp.symm,h.same.al.trans hal.symm,fun b ⟨m,hbm,hL⟩=>?_,fun b hb'=>?_⟩
  ·rcases hm1 b m hbm with hbm|⟨rfl,_⟩
   ·exact h.same.off b ⟨m,hbm,hL⟩
   ·exact(hU _ (bV _)).2
  ·have hnh:¬Hid ms L b:=fun⟨m,hbm,hL⟩=>hb' ⟨m,hm b m hbm,hL⟩
   rcases hnew with ⟨_,_,e⟩|⟨e1,_,e⟩
   ·rw[e];exact h.same.on b hnh
   ·rw[e b fun e=>hb' ⟨i,by rw[e1,e];exact bq ..,hLi⟩];exact h.same.on b hnh
 ·obtain⟨m,hbm,hL⟩:=hb
  rcases hm1 b m hbm with hbm|⟨rfl,_⟩
  ·exact h.nu b ⟨m,hbm,hL⟩
  ·exact(hU _ (bV _)).1
 ·rcases hm1 b m hbm with h1|⟨rfl,rfl⟩
  ·obtain⟨h2,h3,h4⟩:=h.msL b m h1
   exact⟨by omega,bt _ h3,h4⟩
  ·refine⟨?_,bq ..,(bj.1 ho).1⟩
   rcases hnew with ⟨e,_⟩|⟨_,e,_⟩
   ·rw[e]at hbm;exact ah (h.msL _ _ hbm).1 (qH _)
   ·omega
 ·rcases hm1 b m h1 with h1|⟨e1,e2⟩
  ·rcases hm1 b m' h2 with h2|⟨e3,e4⟩
   ·exact h.msF b m m' h1 h2
   ·exact ah (h.msL b m h1).1 (by omega)
  ·rcases hm1 b m' h2 with h2|⟨e3,e4⟩
   ·exact ah (h.msL b m' h2).1 (by omega)
   ·rw[e2,e4]
 ·rcases hm1 b m h1 with h1|⟨e1,e2⟩
  ·rcases hm1 b' m h2 with h2|⟨e3,e4⟩
   ·exact h.msI b b' m h1 h2
   ·exact ah (h.msL b m h1).2.1 (e4▸hi)
  ·rcases hm1 b' m h2 with h2|⟨e3,e4⟩
   ·exact ah (h.msL b' m h2).2.1 (e2▸hi)
   ·rw[e1,e3]
 ·rcases aN.1 hj with rfl|hj
  ·rw[ho]at hoj;cases hoj;exact hp
  ·obtain⟨tv,hp⟩:=h.pend j hj hL oj hoj
   refine⟨tv,hp.mono hj hoj h.dnE hold (fun q _ _ hlt x hx=> .inl (hb _ (hlt x hx)).symm) hn hq (fun b hbm=>hb b (h.msL b j hbm).1) hm fun b m hbm=>?_⟩
   rcases hm1 b m hbm with h1|⟨e1,e2⟩
   ·exact .inl h1
   ·exact .inr ⟨e1,fun e=>hi (by rw[<-e2,e];exact hj)⟩
theorem DInv.view (hS:SlotsOK ops)(h:DInv ops T s0 L U dn qs ms l s sp){i:Nat}{o:Oper}(ho:ops[i]? =some o)(hi:i∉dn){x:Tmp}(hx:x∈k7 ops o)(hn:∀p op,Bef ops p i->ops[p]? =some op->op.dst≠some x):s.get x=s0.get x:=by
 refine h.old x fun j hj oj hoj hd=>?_
 rcases hS.ord j i oj o x hoj ho hd hx with hb|hb
 ·exact hn j oj hb hoj hd
 ·exact hi (hb.closed h.dnE hj)
theorem DInv.look (hS:SlotsOK ops)(h:DInv ops T s0 L U dn qs ms l s sp){i:Nat}{o:Oper}(ho:ops[i]? =some o)(hi:¬L i)(he:∀e∈eU o,L e){tv:Tmp->AV}{x:Tmp}(hx:x∈k7 ops o)
  (h1:∀p op,Bef ops p i->ops[p]? =some op->op.dst=some x->tv x=s.get x) (h0:(∀p op,Bef ops p i->ops[p]? =some op->op.dst≠some x)->tv x=s0.get x):sp.get x=tv x:=by
 have hall:∀p,Bef ops p i->L p:=fun p hb=>by
  cases hb with
  |edge h1 h2=>rw[ho]at h1;cases h1;exact he p h2
  |step h1 h2 h3=>rw[ho]at h1;cases h1;exact h3.closed h.lsE (he _ h2)
 by_cases hw:∃p op,Bef ops p i/\ops[p]? =some op/\op.dst=some x
 ·obtain⟨p,op,hb,hp,hd⟩:=hw
  rw[h1 p op hb hp hd]
  exact h.sp1 x p op (hall p hb) hp hd
 ·rw[h0 fun p op hb hp hd=>hw ⟨p,op,hb,hp,hd⟩]
  refine h.sp2 x fun j oj hj hoj hd=>?_
  rcases hS.ord j i oj o x hoj ho hd hx with hb|hb
  ·exact hw ⟨j,oj,hb,hoj,hd⟩
  ·exact hi (hb.closed h.lsE hj)
end
end Go.Den
namespace Go.Den
open Go.RowKit (Below)
section
variable {P:Program}{E:Tr Sem1}{T:Tr TI}{ops:List Oper}{s s1 s0 sp:St}{L U:Nat->Prop}{dn:List Nat}{qs qs1:List EL}{ms ms':List (Nat×Nat)}{l:List IOp}
theorem isNil_nil.{u}{α:Type u}{l:List α}(h:isNil l=true):l=[]:=by cases l<;>first|rfl|cases h
theorem Bef.lt (hS:SlotsOK ops){i j:Nat}(h:Bef ops i j):i<j:=by
 induction h with
 |edge a b=>exact hS.lt _ _ a _ b
 |step a b _ ih=>exact ov ih (hS.lt _ _ a _ b)
theorem lF (s:St)(d:Option Tmp)(e:Eff)(x:Nat):(s.apply d e).get x=if d=some x then e.v else s.get x:=by
 simp only[St.apply,lW];rfl
theorem tu {pr:List Nat}{ms:List (Nat×Nat)}{b:Nat}:b∈kf pr ms↔∃m,(b,m)∈ms/\sM pr m=false:=by
 unfold kf
 simp only[gR,List.mem_filter,ef]
 exact⟨fun⟨⟨c,m⟩,⟨h1,h2⟩,h3⟩=>⟨m,h3▸h1,h2⟩,fun⟨m,h1,h2⟩=>⟨(b,m),⟨h1,h2⟩,rfl⟩⟩
theorem GY (hS:SlotsOK ops)(h:DInv ops T s0 L U dn qs ms l s sp){p q:List IOp}{i:Nat}{o:Oper}(hl:l=p++(i,o)::q)(he:∀e∈eU o,e∈dn)(hq:gt o.op=true)
  (hg:eN ops o s.get true) {asks:List Bool} {e:Eff} (hr:opC E T s o= .ret asks e) (ha:∀b∈asks,b=true) (h1:isNil e.upd=true) {pr:List Nat} (hpr:∀m,sM pr m=true->Bef ops m i)
  (h3:((pR T s o).all fun r=>Nat.blt r.1 s.n&& !sM (kf pr ms) r.1)=true) (hq2:qNew s i e ms=some ms') (hU:∀b,s.n<=b->¬U b/\sp.blk b= .gone):
  DInv ops T s0 L U (i::dn) ((i,pr,pR T s o)::qs) ms' (p++q) (s.apply o.dst e) sp/\s.n<=(s.apply o.dst e).n:=by
 obtain⟨v,u,nw⟩:=e
 obtain rfl:=isNil_nil h1
 have hl':=hl
 subst hl'
 obtain⟨ho,hi⟩:=h.hl1 (i,o) (by simp)
 have hLi:¬L i:=fun hl=>hi (h.sub i hl)
 have hc:=Al hq
 have hr':=(opC_opN hc).1 hr
 have hdst:∀x∈k7 ops o,∀p op,Bef ops p i->ops[p]? =some op->op.dst=some x->o.dst≠some x:=fun x hx p op hb hp hd hd'=>by
  have:=hS.dst p i op o x hp ho hd hd'
  subst this
  exact ah (hb.lt hS) (qH _)
 have hnew:((nw=[]/\ms'=ms)\/∃nb,nw=[nb]/\ms'=(s.n,i)::ms):=by
  unfold qNew at hq2
  cases nw with
  |nil=>exact .inl ⟨rfl,(aw hq2).symm⟩
  |cons a r=>
   cases r with
   |nil=>exact .inr ⟨a,rfl,(aw hq2).symm⟩
   |cons=>cases hq2
 have hblk:∀b,(s.apply o.dst ⟨v,[],nw⟩).blk b=if s.n<=b/\b<s.n+nw.length then(nw[b-s.n]?).getD .gone else s.blk b:=fun b=>by
  rw[oE];rfl
 have hbl:∀b,b<s.n->(s.apply o.dst ⟨v,[],nw⟩).blk b=s.blk b:=fun b hb=>by rw[hblk,ae (by omega)]
 have hni:∀b,(b,i)∉ms:=fun b hb=>hi (h.msL b i hb).2.1
 refine⟨h.quiet hS hl he (v:=v) (fun x=>lF ..) hbl (mh ..) (mf ..) (fun q hq=>bt _ hq) ?_ hU
  ⟨s.get,hc,fun x hx p op hb hp hd=>?_,fun x hx hn=>h.view hS ho hi hx hn,.inl ⟨hg,_,asks,v,s.n,nw,bq ..,rfl,fun x hx=>?_,fun x hx m hm=>?_,ha,fun s2 hs2 ha2 hs2'=>?_,fun d hd=>?_,?_⟩⟩,?_⟩
 ·rcases hnew with ⟨rfl,e⟩|⟨nb,rfl,e⟩
  ·exact .inl ⟨e,by rw[mZ];rfl,funext fun b=>by rw[hblk,ae (by simp only[kA];omega)]⟩
  ·exact .inr ⟨e,by rw[mZ];rfl,fun b hb=>by rw[hblk,ae (by simp only[fa,kA];omega)]⟩
 ·rw[lF,ae (hdst x hx p op hb hp hd)]
 ·have:=fc.1 h3 x hx
  simp only[ar,gO]at this
  rw[mZ];omega
 ·have:=fc.1 h3 x hx
  simp only[ar,gO,ef]at this
  rcases hnew with ⟨_,e⟩|⟨nb,_,e⟩<;>rw[e]at hm
  ·cases hp:sM pr m with
   |true=>exact hpr m hp
   |false=>have:=this.2;rw[jn.2 (tu.2 ⟨m,hm,hp⟩)]at this;cases this
  ·rcases aN.1 hm with e2|hm
   ·exact ah this.1 (by have:=congrArg Prod.fst e2;simp only at this;omega)
   ·cases hp:sM pr m with
    |true=>exact hpr m hp
    |false=>have:=this.2;rw[jn.2 (tu.2 ⟨m,hm,hp⟩)]at this;cases this
 ·rw[<-hr']
  refine opN_loc hq (FJ hs2') (ij.trans (fun x hx=> .inl ?_) ha2) hs2
  have:=fc.1 h3 x hx
  simp only[ar,gO]at this
  exact(hbl _ this.1).symm
 ·rw[lF,aa hd]
 ·rcases hnew with ⟨rfl,e⟩|⟨nb,rfl,e⟩
  ·exact .inl ⟨rfl,fun b hb=>hni b (e▸hb)⟩
  ·exact .inr ⟨nb,rfl,by rw[e];exact bq ..,by rw[hblk,aa (by simp only[fa,kA];omega)];simp⟩
 ·rw[mZ];omega
theorem Eu (hS:SlotsOK ops)(h:DInv ops T s0 L U dn qs ms l s sp){p q:List IOp}{i:Nat}{o:Oper}(hl:l=p++(i,o)::q)(he:∀e∈eU o,e∈dn)(hq:gt o.op=true)
  (hg:eN ops o s.get false) (hne:o.guard≠none) (hU:∀b,s.n<=b->¬U b/\sp.blk b= .gone):
  DInv ops T s0 L U (i::dn) qs ms (p++q) (s.put o.dst (.tup [])) sp:=by
 have hl':=hl
 subst hl'
 obtain⟨ho,hi⟩:=h.hl1 (i,o) (by simp)
 have hdst:∀x∈k7 ops o,∀p op,Bef ops p i->ops[p]? =some op->op.dst=some x->o.dst≠some x:=fun x hx p op hb hp hd hd'=>by
  have:=hS.dst p i op o x hp ho hd hd'
  subst this
  exact ah (hb.lt hS) (qH _)
 refine h.quiet hS hl he (v:= .tup []) (fun x=>by rw[lW]) (fun b _=>by rw[gV]) (ry ..) (rv ..) (fun q hq=>hq) (.inl ⟨rfl,yM ..,gV ..⟩) hU
  ⟨s.get,Al hq,fun x hx p op hb hp hd=>?_,fun x hx hn=>h.view hS ho hi hx hn,.inr ⟨hne,hg,fun b hb=>hi (h.msL b i hb).2.1,fun d hd=>?_⟩⟩
 ·rw[lW,ae (hdst x hx p op hb hp hd)]
 ·rw[lW,aa hd]
theorem jz (s:St){d:Tmp}{b:Bool}(h:s.get d= .bool b)(x:Nat):({s with t:=(d,.bool b)::s.t}:St).get x=s.get x:=by
 simp only[St.get,look_cons]
 by_cases hx:d=x
 ·subst hx;rw[aa rfl];exact h.symm
 ·rw[ae hx]
theorem Fp {α:Type}{b:Bool}{x y:Option α}{ans:α}(h:br b x y=some ans):(b=true/\x=some ans)\/(b=false/\y=some ans):=by
 cases b
 ·exact .inr ⟨rfl,h⟩
 ·exact .inl ⟨rfl,h⟩
theorem qU {α:Type}{k:St->Option α}{ans:α}(hS:SlotsOK ops):∀(f:Nat) (dn:List Nat) (qs:List EL) (ms:List (Nat×Nat)) (l:List IOp) (s:St),
  uC E T ops (dm ops []) f dn qs ms l s k=some ans->DInv ops T s0 L U dn qs ms l s sp->(∀b,s.n<=b->¬U b/\sp.blk b= .gone)->
  ∃f' dn' qs' ms' l' s',DInv ops T s0 L U dn' qs' ms' l' s' sp/\s.n<=s'.n/\sn dn' [] l'=none/\uC E T ops (dm ops []) f' dn' qs' ms' l' s' k=some ans
 |0,_,_,_,_,_,h,_,_=>by cases h
 |f+1,dn,qs,ms,l,s,h,hD,hU=>by
  cases hn:sn dn [] l with
  |none=>exact⟨f+1,dn,qs,ms,l,s,hD,bV _,hn,h⟩
  |some xl=>
   obtain⟨⟨i,o⟩,l'⟩:=xl
   simp only[uC,hn]at h
   obtain⟨p,q,hl,rfl,hq,he⟩:=xj hn
   simp only[List.reverse_nil,List.nil_append]at h
   have go:∀ {dn' qs' ms' l'} {s1 s':St},s1.n=s.n->s1.n<=s'.n->uC E T ops (dm ops []) f dn' qs' ms' l' s' k=some ans->DInv ops T s0 L U dn' qs' ms' l' s' sp->
     ∃f' dn' qs' ms' l' s',DInv ops T s0 L U dn' qs' ms' l' s' sp/\s.n<=s'.n/\sn dn' [] l'=none/\uC E T ops (dm ops []) f' dn' qs' ms' l' s' k=some ans:=by
    intro dn' qs' ms' l' s1 s' e1 e2 h hD
    obtain⟨f',a1,a2,a3,a4,a5,b1,b2,b3,b4⟩:=qU hS f _ _ _ _ _ h hD fun b hb=>hU b (by omega)
    exact⟨f',a1,a2,a3,a4,a5,b1,by omega,b3,b4⟩
   have run:∀s1:St,(∀x,s1.get x=s.get x)->SameH s s1->eN ops o s1.get true->
     (match opC E T s1 o with
      | .ret asks e=>match isNil e.upd&&((pR T s1 o).all fun r=>Nat.blt r.1 s1.n&& !sM (kf (match nth (dm ops []) i with|some p=>p|none=>[]) ms) r.1)with
       |true=>match qNew s1 i e ms with
        |some ms'=>Fg asks (uC E T ops (dm ops []) f (i::dn) ((i,(match nth (dm ops []) i with|some p=>p|none=>[]),pR T s1 o)::qs) ms' (p++q) (s1.apply o.dst e) k)
        |none=>none
       |false=>none
      |_=>none)=some ans->
     ∃f' dn' qs' ms' l' s',DInv ops T s0 L U dn' qs' ms' l' s' sp/\s.n<=s'.n/\sn dn' [] l'=none/\uC E T ops (dm ops []) f' dn' qs' ms' l' s' k=some ans:=by
    intro s1 hg hh hgd h
    split at h
    ·rename_i asks e hr
     split at h
     ·rename_i hc
      simp only[ar]at hc
      split at h
      ·rename_i ms' hq2
       obtain⟨h1,h2⟩:=A0 h
       obtain⟨k1,k2⟩:=GY hS (hD.eqv hg hh) hl he hq hgd hr h1 hc.1 (fun m=>vY) hc.2 hq2 (fun b hb=>hU b (by rw[hh.n]at hb;exact hb))
       exact go hh.n k2 h2 k1
      ·cases h
     ·cases h
    ·cases h
   have skip:∀s1:St,(∀x,s1.get x=s.get x)->SameH s s1->eN ops o s1.get false->o.guard≠none->
     uC E T ops (dm ops []) f (i::dn) qs ms (p++q) (s1.put o.dst (.tup [])) k=some ans->
     ∃f' dn' qs' ms' l' s',DInv ops T s0 L U dn' qs' ms' l' s' sp/\s.n<=s'.n/\sn dn' [] l'=none/\uC E T ops (dm ops []) f' dn' qs' ms' l' s' k=some ans:=by
    intro s1 hg hh hgd hne h
    exact go hh.n (by rw[yM];exact bV _) h (Eu hS (hD.eqv hg hh) hl he hq hgd hne (fun b hb=>hU b (by rw[hh.n]at hb;exact hb)))
   split at h
   ·rename_i hg
    exact run s (fun _=>rfl) (SameH.refl s) (by simp[eN,hg]) h
   ·rename_i j want hg
    split at h
    ·cases h
    ·rename_i d hj
     split at h
     ·rename_i b hb
      rcases Fp h with ⟨rfl,h⟩|⟨rfl,h⟩
      ·cases want with
       |true=>exact run _ (jz s hb) ⟨rfl,rfl,rfl,rfl⟩ (by simp only[eN,hg];exact⟨d,hj,.inl ((jz s hb d).trans hb)⟩) h
       |false=>exact skip _ (jz s hb) ⟨rfl,rfl,rfl,rfl⟩ (by simp only[eN,hg];exact⟨d,hj,.inl ((jz s hb d).trans hb)⟩) (by simp[hg]) h
      ·cases want with
       |false=>exact run _ (jz s hb) ⟨rfl,rfl,rfl,rfl⟩ (by simp only[eN,hg];exact⟨d,hj,.inl ((jz s hb d).trans hb)⟩) h
       |true=>exact skip _ (jz s hb) ⟨rfl,rfl,rfl,rfl⟩ (by simp only[eN,hg];exact⟨d,hj,.inl ((jz s hb d).trans hb)⟩) (by simp[hg]) h
     ·rename_i hb
      exact skip s (fun _=>rfl) (SameH.refl s) (by simp only[eN,hg];exact⟨d,hj,.inr ⟨trivial,hb⟩⟩) (by simp[hg]) h
     ·cases h
end
end Go.Den
namespace Go.Den
open Go.RowKit (Below)
section
variable {P:Program}{E:Tr Sem1}{T:Tr TI}{B:Bs}{nt:Nat}
theorem Good.atN {s:St}{C:Cx}{a:Act}{w:World}{n m:Nat}(h:Good B nt (s.atN n) C a w)(hn:n<=m):Good B nt (s.atN m) C a w where
 w:=h.w
 inv:=h.inv.same rfl rfl rfl
 ain:=⟨h.ain.dfr,h.ain.siz,h.ain.tm⟩
 old:=h.old
 fr i hi:=dB (h.fr i hi) hn
theorem Good.high {s:St}{C:Cx}{a:Act}{w:World}{n:Nat}(h:Good B nt (s.atN n) C a w)(b:Nat)(hb:n<=b):¬C.used b/\s.blk b= .gone:=by
 have hu:¬C.used b:=fun hu=>ah (h.fr b hu) (Nat.not_lt.2 hb)
 exact⟨hu,(h.inv.us b hu).1⟩
theorem Good.same {s s':St}{C:Cx}{a:Act}{w:World}(h:Good B nt s C a w)(hh:SameH s s')(hg:∀x,s'.get x=s.get x):Good B nt s' C a w where
 w:=h.w
 inv:=h.inv.same hh.blk hh.np hh.al
 ain:=⟨h.ain.dfr,h.ain.siz,fun i=>by rw[hg];exact h.ain.tm i⟩
 old:=h.old
 fr i hi:=by rw[hh.n];exact h.fr i hi
theorem sK {ops:Array Oper}{s:St}{C:Cx}{a:Act}{w:World}(hG:Good B nt s C a w){o:Oper}{b:Bool}(h:eN ops.toList o s.get b):Region.wanted o (yielded ops a.tmps)=b:=by
 unfold eN at h
 split at h
 ·rename_i hg;rw[h];simp[Region.wanted,hg]
 ·rename_i j want hg
  obtain⟨d,hj,hb|⟨rfl,hb⟩⟩:=h
  ·have ht:a.tmps.getD d undef= .bool (b==want):=by have:=hG.ain.tm d;rw[hb]at this;exact this
   have hy:yielded ops a.tmps j=some (b==want):=by
    unfold ui at hj
    rw[nth_eq]at hj
    split at hj
    ·rename_i q hq
     have hq':ops[j]? =some q:=by simpa using hq
     simp only[yielded,hq',qA,hj,sG ht]
    ·cases hj
   simp only[Region.wanted,hg,hy]
   cases b<;>cases want<;>rfl
  ·have hu:=AK (by have:=hG.ain.tm d;rw[hb]at this;exact this)
   simp[Region.wanted,hg,sL hj hu]
theorem eN.of_get {ops:List Oper}{o:Oper}{tv tv':Tmp->AV}{b:Bool}(h:eN ops o tv b)(hs:∀x∈k7 ops o,tv' x=tv x):eN ops o tv' b:=by
 unfold eN at h|-
 split
 ·rename_i hg;simpa[hg]using h
 ·rename_i j want hg
  simp only[hg]at h
  obtain⟨d,hj,hb⟩:=h
  exact⟨d,hj,by rw[hs d (EA hg hj)];exact hb⟩
theorem xr {ops:Array Oper}{listed:Array Bool}{i:Nat}(h:i∈Region.ready .any ops listed):listed.getD i true=false/\∃o,ops[i]? =some o/\∀e∈eU o,listed.getD e false=true:=by
 obtain⟨h0,o,ho,ha⟩:=mem_ready.1 h
 refine⟨h0,o,ho,fun e he=>?_⟩
 unfold eU at he
 obtain⟨d,hd,rfl⟩:=gR.1 he
 rw[List.mem_filter]at hd
 exact ha d (by simpa using hd.1) hd.2
theorem G1 {ops:Array Oper}{listed:Array Bool}(hS:SlotsOK ops.toList)(hsz:listed.size=ops.size)(h:Region.ready .any ops listed=[]):∀i,i<ops.size->listed.getD i false=true:=by
 intro i
 induction i using Nat.strongRecOn with
 |ind i ih=>
  intro hi
  by_cases hl:listed.getD i false=true
  ·exact hl
  ·exfalso
   have hlt:i<listed.size:=by omega
   have h0:listed.getD i true=false:=by
    simp only[Array.getD,hlt,dif_pos]at hl|-
    simpa using hl
   have hmem:i∈Region.ready .any ops listed:=by
    refine mem_ready.2 ⟨h0,ops[i],by simp[hi],fun e he hb=>?_⟩
    have he':e.on∈eU ops[i]:=by
     unfold eU
     exact gR.2 ⟨e,List.mem_filter.2 ⟨by simpa using he,hb⟩,rfl⟩
    have hlt:=hS.lt i ops[i] (by simp[hi]) _ he'
    exact ih _ hlt (by omega)
   rw[h]at hmem
   cases hmem
theorem GX (s:St)(n:Nat)(d:Option Tmp)(v:AV):(s.atN n).put d v=(s.put d v).atN n:=by cases d<;>rfl
theorem C7 (s:St)(bs:List Nat)(b:Nat):(s.mask bs).blk b=if b∈bs then .gone else s.blk b:=by
 have:∀(bs:List Nat) (h:List (Nat×Blk)),(match look (FX bs h) b with|some v=>v|none=>Blk.gone)=if b∈bs then .gone else(match look h b with|some v=>v|none=>Blk.gone):=by
  intro bs
  induction bs with
  |nil=>intro h;simp[FX]
  |cons c r ih=>
   intro h
   simp only[FX,look_cons]
   by_cases e:c=b
   ·subst e;rw[aa rfl,aa (bq ..)]
   ·rw[ae e,ih h]
    by_cases m:b∈r
    ·rw[aa m,aa (bt _ m)]
    ·rw[ae m,ae fun h=>(aN.1 h).elim (fun e'=>e e'.symm) m]
 exact this bs s.h
theorem Ah {bs:List Nat}:∀ {u:List (Nat×WU)},offB bs u=true->∀x∈u,x.1∉bs
 |[],_,x,hx=>by cases hx
 |y::u,h,x,hx=>by
  simp only[offB,ar,ef]at h
  rcases aN.1 hx with rfl|hx
  ·intro hm;rw[jn.2 hm]at h;cases h.1
  ·exact Ah h.2 x hx
theorem Ek (hV:Env P T E B){ops:Array Oper}(hS:SlotsOK ops.toList)(hd:∀o∈ops.toList,∀i,o.dst=some i->i<nt){α:Type}{k:St->Option α}{ans:α}{Q:Exit->Act->World->Prop}{s0:St}
  (hK:∀s' C' a' w',Good B nt s' C' a' w'->k s'=some ans->Q .normal a' w'):
  ∀(fuel:Nat) (listed:Array Bool) (f:Nat) (dn:List Nat) (qs:List EL) (ms:List (Nat×Nat)) (l:List IOp) (s sp:St) (C:Cx) (a:Act) (w:World),
   uC E T ops.toList (dm ops.toList []) f dn qs ms l s k=some ans->sn dn [] l=none->DInv ops.toList T s0 (fun i=>listed.getD i false=true) C.used dn qs ms l s sp->Good B nt (sp.atN s.n) C a w->
   listed.size=ops.size->listed.toList.countP (fun b=> !b)<=fuel->wpAny P .any ops Q fuel listed a w:=by
 have fin:∀(listed:Array Bool) (f:Nat) (dn:List Nat) (qs:List EL) (ms:List (Nat×Nat)) (l:List IOp) (s sp:St) (C:Cx) (a:Act) (w:World),
   uC E T ops.toList (dm ops.toList []) f dn qs ms l s k=some ans->sn dn [] l=none->DInv ops.toList T s0 (fun i=>listed.getD i false=true) C.used dn qs ms l s sp->Good B nt (sp.atN s.n) C a w->
   (∀i,i<ops.size->listed.getD i false=true)->Q .normal a w:=by
  intro listed f dn qs ms l s sp C a w h hn hD hG hall
  have hlt:∀ {i:Nat} {o:Oper},ops.toList[i]? =some o->i<ops.size:=fun h=>by have:=(bj.1 h).1;simpa using this
  have hl:l=[]:=by
   cases l with
   |nil=>rfl
   |cons x r=>
    obtain⟨h1,h2⟩:=hD.hl1 x (bq ..)
    exact ah (hD.sub x.1 (hall _ (hlt h1))) h2
  subst hl
  cases f with
  |zero=>cases h
  |succ f=>
   simp only[uC,sn]at h
   have hnoh:∀b,¬Hid ms (fun i=>listed.getD i false=true) b:=fun b ⟨m,hm,hL⟩=>by
    exact hL (hall m (by have:=(hD.msL b m hm).2.2;simpa using this))
   refine hK s C a w (hG.same ⟨funext fun b=>(hD.same.on b (hnoh b)).symm,rfl,hD.same.np.symm,hD.same.al.symm⟩ fun x=>?_) h
   show s.get x=sp.get x
   by_cases hw:∃(i:Nat) (o:Oper),ops.toList[i]? =some o/\o.dst=some x
   ·obtain⟨i,o,ho,hx⟩:=hw
    exact(hD.sp1 x i o (hall i (hlt ho)) ho hx).symm
   ·rw[hD.sp2 x fun i o _ ho hx=>hw ⟨i,o,ho,hx⟩,hD.old x fun i _ o ho hx=>hw ⟨i,o,ho,hx⟩]
 intro fuel
 induction fuel with
 |zero=>
  intro listed f dn qs ms l s sp C a w h hn hD hG hsz hc
  have hall:∀i,i<ops.size->listed.getD i false=true:=by
   intro i hi
   have h0:listed.toList.countP (fun b=> !b)=0:=by omega
   rw[List.countP_eq_zero]at h0
   have hlt:i<listed.size:=by omega
   have:=h0 listed[i] (by simp)
   simp only[Array.getD,hlt,dif_pos]
   simpa using this
  refine⟨?_,fin listed f dn qs ms l s sp C a w h hn hD hG hall⟩
  cases hr:Region.ready .any ops listed with
  |nil=>rfl
  |cons i r=>
   have hmem:i∈Region.ready .any ops listed:=by rw[hr];exact bq ..
   obtain⟨h0,o,ho,_⟩:=xr hmem
   have hlt:i<ops.size:=(mR.1 ho).1
   have:=hall i hlt
   have hlt':i<listed.size:=by omega
   simp only[Array.getD,hlt',dif_pos]at this h0
   rw[this]at h0;cases h0
 |succ fuel ih=>
  intro listed f dn qs ms l s sp C a w h hn hD hG hsz hc
  refine⟨fun hr=>fin listed f dn qs ms l s sp C a w h hn hD hG (G1 hS hsz hr),fun i hi=>?_⟩
  obtain⟨h0,o,ho,he⟩:=xr hi
  have ho':ops.toList[i]? =some o:=by simpa using ho
  have hlti:i<ops.size:=(mR.1 ho).1
  have hltl:i<listed.size:=by omega
  have hLi:¬listed.getD i false=true:=by
   simp only[Array.getD,hltl,dif_pos]at h0|-
   rw[h0];simp
  have hdo:∀d,o.dst=some d->d<nt:=hd o (cw ho')
  have hget:∀j,(listed.setIfInBounds i true).getD j false=true↔j=i\/listed.getD j false=true:=fun j=>by
   by_cases hj:j=i
   ·subst hj
    simp[Array.getD,hltl]
   ·rw[getD_set_ne false (Ne.symm hj)]
    simp[hj]
  have hsz':(listed.setIfInBounds i true).size=ops.size:=by rw[Array.size_setIfInBounds];exact hsz
  have hc':(listed.setIfInBounds i true).toList.countP (fun b=> !b)<=fuel:=by
   have h1:(listed.setIfInBounds i true).toList=listed.toList.set i true:=by simp
   have hb:listed.toList[i]'(by simpa using hltl)=false:=by
    simp only[Array.getD,hltl,dif_pos]at h0
    simpa using h0
   rw[h1,List.countP_set (by simpa using hltl)]
   simp only[hb,Bool.not_false,if_true,kB,og,if_false,iA]
   have:0<listed.toList.countP (fun b=> !b):=List.countP_pos_iff.2 ⟨false,by rw[<-hb];exact fG _,rfl⟩
   omega
  have hlsE:tQ ops.toList (fun j=>(listed.setIfInBounds i true).getD j false=true):=fun j hj p hp e hep=>by
   rcases(hget j).1 hj with rfl|hj
   ·rw[ho']at hp;cases hp
    exact(hget e).2 (.inr (he e hep))
   ·exact(hget e).2 (.inr (hD.lsE j hj p hp e hep))
  by_cases hdn:i∈dn
  ·
   obtain⟨tv,hp⟩:=hD.pend i hdn hLi o ho'
   have hlook:∀x∈k7 ops.toList o,sp.get x=tv x:=fun x hx=>hD.look hS ho' hLi he hx (hp.view1 x hx) (hp.view0 x hx)
   have hall:∀p,Bef ops.toList p i->listed.getD p false=true:=fun p hb=>by
    cases hb with
    |edge h1 h2=>rw[ho']at h1;cases h1;exact he p h2
    |step h1 h2 h3=>rw[ho']at h1;cases h1;exact h3.closed hD.lsE (he _ h2)
   have next:∀(sp':St) (U':Nat->Prop) (v:AV),HRel s sp' (Hid ms fun j=>(listed.setIfInBounds i true).getD j false=true)->(∀b,Hid ms (fun j=>(listed.setIfInBounds i true).getD j false=true) b->¬U' b)->(∀x,sp'.get x=if o.dst=some x then v else sp.get x)->(∀d,o.dst=some d->s.get d=v)->
     DInv ops.toList T s0 (fun j=>(listed.setIfInBounds i true).getD j false=true) U' dn qs ms l s sp':=fun sp' U' v hh hU hg hv=>by
    refine⟨hD.nd,hD.hl1,hD.hl2,hD.dnE,hlsE,fun j hj=>?_,hD.old,fun x j oj hj hoj hx=>?_,fun x hx=>?_,hh,hU,hD.msL,hD.msF,hD.msI,fun j hj hL oj hoj=>hD.pend j hj (fun hl=>hL ((hget j).2 (.inr hl))) oj hoj⟩
    ·rcases(hget j).1 hj with rfl|hj
     ·exact hdn
     ·exact hD.sub j hj
    ·rcases(hget j).1 hj with rfl|hj
     ·rw[ho']at hoj;cases hoj
      rw[hg,aa hx,hv x hx]
     ·rw[hg]
      split
      ·rename_i hx'
       exact(hv x hx').symm
      ·exact hD.sp1 x j oj hj hoj hx
    ·rw[hg,ae (hx i o ((hget i).2 (.inl rfl)) ho')]
     exact hD.sp2 x fun j oj hj hoj=>hx j oj ((hget j).2 (.inr hj)) hoj
   have hid0:(∀b,(b,i)∉ms)->∀b,Hid ms (fun j=>(listed.setIfInBounds i true).getD j false=true) b↔Hid ms (fun j=>listed.getD j false=true) b:=fun hno b=>by
    refine⟨fun⟨m,hm,hL⟩=>⟨m,hm,fun hl=>hL ((hget m).2 (.inr hl))⟩,fun⟨m,hm,hL⟩=>⟨m,hm,fun hl=>?_⟩⟩
    rcases(hget m).1 hl with rfl|hl
    ·exact hno b hm
    ·exact hL hl
   unfold wpOp
   simp only[ho]
   rcases hp.run with ⟨hg,q,asks,v,r,nw,hr⟩|⟨_,hg,hno,hdead⟩
   ·rw[sK hG (hg.of_get hlook),aa rfl]
    left
    have hvis:∀x∈q.2.2,¬Hid ms (fun j=>listed.getD j false=true) x.1:=fun x hx ⟨m,hm,hL⟩=>hL (hall m (hr.vis x hx m hm))
    have hres:opN T (sp.atN r) o= .ret asks ⟨v,[],nw⟩:=hr.res (sp.atN r) rfl (fun x hx=> .inl (hD.same.on _ (hvis x hx)).symm) fun t ht=>hlook t (t7 ht)
    have hG1:Inv B (sp.atN r) C:=hG.inv.same rfl rfl rfl
    have hA1:AInv nt (sp.atN r) C a:=⟨hG.ain.dfr,hG.ain.siz,hG.ain.tm⟩
    have hfree:∀j,j<lenN nw->¬C.used (r+j):=fun j hj=>by
     rcases hr.new with ⟨e,_⟩|⟨nb,e,hm,_⟩
     ·rw[e]at hj;cases hj
     ·rw[e]at hj
      obtain rfl:j=0:=by simp only[lenN]at hj;omega
      exact hD.nu r ⟨i,hm,hLi⟩
    have h1:=(Dj hV.tok hV.eq hG1 hA1 hdo hres hr.hask hfree).wp
    unfold OpWp at h1
    rw[hG.w]at h1
    refine h1 _ Q fun u w' C' p=>?_
    have huse:∀b,C'.used b↔C.used b\/(r<=b/\b<r+lenN nw):=p.use
    have hrn:∀b,r<=b/\b<r+lenN nw->b=r/\(r,i)∈ms:=fun b hb=>by
     rcases hr.new with ⟨e,_⟩|⟨nb,e,hm,_⟩
     ·rw[e]at hb;simp only[lenN]at hb;omega
     ·rw[e]at hb;simp only[lenN]at hb;exact⟨by omega,hm⟩
    have hspb:∀b,((sp.atN r).apply o.dst ⟨v,[],nw⟩).blk b=if r<=b/\b<r+nw.length then(nw[b-r]?).getD .gone else sp.blk b:=fun b=>by rw[oE];rfl
    refine ih _ f dn qs ms l s ((sp.atN r).apply o.dst ⟨v,[],nw⟩) C' _ w' h hn (next _ _ v ⟨?_,?_,fun b hb=>?_,fun b hb=>?_⟩ (fun b hb=>?_) (fun x=>lF ..) hr.dst) ?_ hsz' hc'
    ·rw[mh];exact hD.same.np
    ·rw[mf];exact hD.same.al
    ·obtain⟨m,hm,hL⟩:=hb
     have hne:m≠i:=fun e=>hL ((hget m).2 (.inl e))
     rw[hspb,ae]
     ·exact hD.same.off b ⟨m,hm,fun hl=>hL ((hget m).2 (.inr hl))⟩
     ·intro hb
      obtain⟨rfl,hm2⟩:=hrn b (by rw[lenN_eq];exact hb)
      exact hne (hD.msF _ _ _ hm hm2)
    ·rw[hspb]
     split
     ·rename_i hb2
      rcases hr.new with ⟨e,_⟩|⟨nb,e,_,hsb⟩
      ·rw[e]at hb2;simp only[kA]at hb2;omega
      ·rw[e]at hb2|-
       simp only[fa,kA]at hb2
       obtain rfl:b=r:=by omega
       rw[hsb];simp
     ·rename_i hb2
      refine hD.same.on b fun⟨m,hm,hL⟩=>hb ⟨m,hm,fun hl=>?_⟩
      rcases(hget m).1 hl with rfl|hl
      ·rcases hr.new with ⟨_,e⟩|⟨nb,e,hm2,_⟩
       ·exact e b hm
       ·obtain rfl:=hD.msI _ _ _ hm hm2
        exact hb2 (by rw[e];simp)
      ·exact hL hl
    ·obtain⟨m,hm,hL⟩:=hb
     have hne:m≠i:=fun e=>hL ((hget m).2 (.inl e))
     rw[huse]
     rintro(hu|hu)
     ·exact hD.nu b ⟨m,hm,fun hl=>hL ((hget m).2 (.inr hl))⟩ hu
     ·obtain⟨rfl,hm2⟩:=hrn b hu
      exact hne (hD.msF _ _ _ hm hm2)
    ·refine⟨p.w,p.inv.same rfl rfl rfl,⟨p.ain.dfr,p.ain.siz,p.ain.tm⟩,hG.old.ext hG.inv p.ext,fun b hb=>?_⟩
     show b<s.n
     rcases(huse b).1 hb with hu|hu
     ·exact hG.fr b hu
     ·obtain⟨rfl,hm2⟩:=hrn b hu
      exact(hD.msL _ _ hm2).1
   ·rw[sK hG (hg.of_get hlook),ae (by simp)]
    refine ih _ f dn qs ms l s (sp.put o.dst (.tup [])) C _ w h hn (next _ _ (.tup []) ⟨?_,?_,fun b hb=>?_,fun b hb=>?_⟩ (fun b hb=>hD.nu b ((hid0 hno b).1 hb)) (fun x=>by rw[lW]) hdead) ?_ hsz' hc'
    ·rw[ry];exact hD.same.np
    ·rw[rv];exact hD.same.al
    ·rw[gV];exact hD.same.off b ((hid0 hno b).1 hb)
    ·rw[gV];exact hD.same.on b fun h=>hb ((hid0 hno b).2 h)
    ·have:=hG.put hdo (v:= .tup []) (x:=undef) wn
     rwa [GX]at this
  ·
   have hmem:(i,o)∈l:=(hD.hl2 i o ho').resolve_left hdn
   have hedn:∀e∈eU o,e∈dn:=fun e h=>hD.sub e (he e h)
   have hnq:gt o.op=false:=by
    cases hq:gt o.op with
    |false=>rfl
    |true=>exact ah hedn (xi hn (i,o) hmem hq)
   cases f with
   |zero=>cases h
   |succ f=>
    simp only[uC,hn]at h
    split at h
    ·simp at hmem
    ·split at h
     ·cases h
     ·rename_i _ _ _ x l' hx
      obtain⟨p,q,hl,rfl,_,hpq,_,hq2⟩:=xh hx
      simp only[List.reverse_nil,List.nil_append]at h
      have hxi:x=(i,o):=by
       rw[hl]at hmem
       rcases jc.1 hmem with hm|hm
       ·have:=hpq _ hm;rw[hnq]at this;cases this
       ·rcases aN.1 hm with hm|hm
        ·exact hm.symm
        ·rcases hq2 _ hm with hm|hm
         ·rw[hnq]at hm;cases hm
         ·exact ah hedn hm
      subst hxi
      have hnd:=hD.nd
      rw[hl]at hnd
      simp only[iy,jQ]at hnd
      rw[List.perm_middle.nodup_iff,mA]at hnd
      have hall:∀p,Bef ops.toList p i->listed.getD p false=true:=fun p hb=>by
       cases hb with
       |edge h1 h2=>rw[ho']at h1;cases h1;exact he p h2
       |step h1 h2 h3=>rw[ho']at h1;cases h1;exact h3.closed hD.lsE (he _ h2)
      have hniM:∀b,(b,i)∉ms:=fun b hb=>hdn (hD.msL b i hb).2.1
      have hidL:∀b,Hid ms (fun j=>(listed.setIfInBounds i true).getD j false=true) b↔Hid ms (fun j=>listed.getD j false=true) b:=fun b=>by
       refine⟨fun⟨m,hm,hL⟩=>⟨m,hm,fun hl=>hL ((hget m).2 (.inr hl))⟩,fun⟨m,hm,hL⟩=>⟨m,hm,fun hl=>?_⟩⟩
       rcases(hget m).1 hl with rfl|hl
       ·exact hniM b hm
       ·exact hL hl
      have hsub:∀b,Hid ms (fun j=>listed.getD j false=true) b->b∈kf (match nth (dm ops.toList []) i with|some p=>p|none=>[]) ms:=fun b ⟨m,hm,hL⟩=>by
       refine tu.2 ⟨m,hm,?_⟩
       cases hp:sM (match nth (dm ops.toList []) i with|some p=>p|none=>[]) m with
       |false=>rfl
       |true=>exact ah (hall m (vY hp)) hL
      have hmL:∀b,Hid ms (fun j=>listed.getD j false=true) b->b<s.n:=fun b ⟨m,hm,_⟩=>(hD.msL b m hm).1
      have next:∀(s1 sp' s':St) (U':Nat->Prop) (v:AV),(∀x,s1.get x=s.get x)->SameH s s1->HRel s' sp' (Hid ms fun j=>listed.getD j false=true)->(∀b,Hid ms (fun j=>listed.getD j false=true) b->¬U' b)->(∀x,s'.get x=if o.dst=some x then v else s1.get x)->(∀x,sp'.get x=if o.dst=some x then v else sp.get x)->s.n<=s'.n->
        (∀q∈qs,¬Bef ops.toList q.1 i->(∀x∈q.2.2,x.1<s1.n)->ij q.2.2 s1 s')->(∀b,Hid ms (fun j=>listed.getD j false=true) b->s'.blk b=s.blk b)->
        DInv ops.toList T s0 (fun j=>(listed.setIfInBounds i true).getD j false=true) U' (i::dn) qs ms (p++q) s' sp':=by
       intro s1 sp' s' U' v hg1 hh1 hh hU hg hgp hnn hA hBk
       have hold:∀y k ok,k∈dn->ops.toList[k]? =some ok->ok.dst=some y->s'.get y=s.get y:=fun y k ok hk hok hd=>by
        rw[hg,ae,hg1]
        intro hd'
        have:=hS.dst k i ok o y hok ho' hd hd'
        exact hdn (this▸hk)
       refine⟨by rw[iy];exact hnd.2,fun x hx=>?_,fun j oj hj=>?_,hD.dnE.cons ho' hedn,hlsE,fun j hj=>?_,fun x hx=>?_,fun x j oj hj hoj hx=>?_,fun x hx=>?_,⟨hh.np,hh.al,fun b hb=>hh.off b ((hidL b).1 hb),fun b hb=>hh.on b fun h=>hb ((hidL b).2 h)⟩,fun b hb=>hU b ((hidL b).1 hb),fun b m hbm=>⟨dB (hD.msL b m hbm).1 hnn,bt _ (hD.msL b m hbm).2.1,(hD.msL b m hbm).2.2⟩,hD.msF,hD.msI,fun j hj hL oj hoj=>?_⟩
       ·have hx':x∈l:=by
         rw[hl]
         rcases jc.1 hx with hx|hx
         ·exact iw _ hx
         ·exact gb _ (bt _ hx)
        obtain⟨h1,h2⟩:=hD.hl1 x hx'
        refine⟨h1,fun hm=>?_⟩
        rcases aN.1 hm with hm|hm
        ·exact hnd.1 (by rw[<-iy];exact gR.2 ⟨x,hx,hm⟩)
        ·exact h2 hm
       ·rcases hD.hl2 j oj hj with h1|h1
        ·exact .inl (bt _ h1)
        ·rw[hl]at h1
         rcases jc.1 h1 with h1|h1
         ·exact .inr (iw _ h1)
         ·rcases aN.1 h1 with h1|h1
          ·cases h1;exact .inl (bq ..)
          ·exact .inr (gb _ h1)
       ·rcases(hget j).1 hj with rfl|hj
        ·exact bq ..
        ·exact bt _ (hD.sub j hj)
       ·rw[hg,ae (hx i (bq ..) o ho'),hg1]
        exact hD.old x fun j hj oj hoj=>hx j (bt _ hj) oj hoj
       ·rcases(hget j).1 hj with rfl|hj
        ·rw[ho']at hoj;cases hoj
         rw[hgp,hg,aa hx,aa hx]
        ·rw[hold x j oj (hD.sub j hj) hoj hx,hgp,ae]
         ·exact hD.sp1 x j oj hj hoj hx
         ·intro hd'
          have:=hS.dst j i oj o x hoj ho' hx hd'
          exact hLi (this▸hj)
       ·rw[hgp,ae (hx i o ((hget i).2 (.inl rfl)) ho')]
        exact hD.sp2 x fun j oj hj hoj=>hx j oj ((hget j).2 (.inr hj)) hoj
       ·have hji:j≠i:=fun e=>hL ((hget j).2 (.inl e))
        have hj':j∈dn:=(aN.1 hj).resolve_left hji
        have hLj:¬listed.getD j false=true:=fun hl=>hL ((hget j).2 (.inr hl))
        obtain⟨tv,hp⟩:=hD.pend j hj' hLj oj hoj
        refine⟨tv,hp.mono hj' hoj hD.dnE hold (fun q hq hqj hlt=>ij.trans (ij.of_blk hh1.blk) (hA q hq (fun hb=>hLj (hqj▸hall _ hb)) (by rw[hh1.n];exact hlt))) hnn (fun q hq=>hq) (fun b hb=>hBk b ⟨j,hb,hLj⟩) (fun _ _ h=>h) fun _ _ h=> .inl h⟩
      have hlook:∀x∈k7 ops.toList o,sp.get x=s.get x:=fun x hx=>hD.look hS ho' hLi he hx (tv:=s.get) (fun _ _ _ _ _=>rfl) fun hn=>hD.view hS ho' hdn hx hn
      have hrun:∀s1:St,(∀x,s1.get x=s.get x)->SameH s s1->eN ops.toList o s1.get true->
        (match isNil (kf (match nth (dm ops.toList []) i with|some p=>p|none=>[]) ms)||KJ (s1.mask (kf (match nth (dm ops.toList []) i with|some p=>p|none=>[]) ms)) o with
         |true=>KF E (opC E T (s1.mask (kf (match nth (dm ops.toList []) i with|some p=>p|none=>[]) ms)) o) fun e=>match qd s1 (match nth (dm ops.toList []) i with|some p=>p|none=>[]) e.upd qs&&offB (kf (match nth (dm ops.toList []) i with|some p=>p|none=>[]) ms) e.upd with
          |true=>uC E T ops.toList (dm ops.toList []) f (i::dn) qs ms (p++q) (s1.apply o.dst e) k
          |false=>none
         |false=>none)=some ans->wpOp P ops Q i (wpAny P .any ops Q fuel (listed.setIfInBounds i true)) a w:=by
       intro s1 hg1 hh1 hgd h
       have hprm:∀m,sM (match nth (dm ops.toList []) i with|some p=>p|none=>[]) m=true->Bef ops.toList m i:=fun m=>vY
       generalize (match nth (dm ops.toList []) i with|some p=>p|none=>[])=pr at h hsub hprm
       split at h
       ·rename_i hsol
        unfold wpOp
        simp only[ho]
        rw[sK hG (hgd.of_get fun x hx=>(hlook x hx).trans (hg1 x).symm),aa rfl]
        left
        have hmore:MoreH (s1.mask (kf pr ms)) (sp.atN s.n):=by
         refine⟨fun b hb=>?_,hh1.n.symm,hD.same.np.trans hh1.np.symm,hD.same.al.trans hh1.al.symm⟩
         rw[C7]at hb|-
         by_cases hm:b∈kf pr ms
         ·rw[aa hm]at hb;exact ah rfl hb
         ·rw[ae hm,hh1.blk];exact hD.same.on b fun h=>hm (hsub b h)
        have hev:∀x∈o.op.operands,(sp.atN s.n).ev x=(s1.mask (kf pr ms)).ev x:=FJ fun t ht=>(hlook t (t7 ht)).trans (hg1 t).symm
        have hrefs:∀b∈kL true (o.op.operands.toList.map (s1.mask (kf pr ms)).ev),(sp.atN s.n).blk b=(s1.mask (kf pr ms)).blk b:=fun b hb=>by
         rw[cO]at hsol
         rcases hsol with hsol|hsol
         ·have he:=isNil_nil hsol
          rw[C7,he,ae (by simp),hh1.blk]
          exact hD.same.on b fun h=>by have:=hsub b h;rw[he]at this;cases this
         ·have:=fc.1 hsol b hb
          refine hmore.blk b fun e=>?_
          rw[e]at this;cases this
        have hne:opC E T (s1.mask (kf pr ms)) o≠ .none:=fun e=>by rw[e]at h;cases h
        rw[<-I7 hmore hnq hev hrefs hne]at h
        refine Hm hV hG hdo h _ Q fun e u w' C' hke p'=>?_
        split at hke
        ·rename_i hsp
         rw[ar]at hsp
         have hoff:∀(h:List (Nat×Blk)) b,Hid ms (fun j=>listed.getD j false=true) b->lG (cF e.upd h) b=lG h b:=fun h b hb=>by
          unfold lG
          rw[gh _ _ _ fun x hx e=>Ah hsp.2 x hx (e▸hsub b hb)]
         have hD':=next s1 ((sp.atN s.n).apply o.dst e) (s1.apply o.dst e) C'.used e.v hg1 hh1
          ⟨by rw[mh,mh];exact hD.same.np.trans hh1.np.symm,by rw[mf,mf];exact hD.same.al.trans hh1.al.symm,fun b hb=>by
           rw[oE,ae (by have:=hmL b hb;show ¬(s.n<=b/\_);omega),hoff _ b hb]
           exact hD.same.off b hb,fun b hb=>CA (s:=s1) (s':=sp.atN s.n) hh1.n.symm (by rw[hh1.blk];exact hD.same.on b hb) _ _ _⟩
          (fun b hb hu=>by
           rcases(p'.use b).1 hu with hu|hu
           ·exact hD.nu b hb hu
           ·exact ah (hmL b hb) (Nat.not_lt.2 hu.1))
          (fun x=>lF ..) (fun x=>lF ..) (by rw[mZ,hh1.n];omega) (fun q hq hnb hlt=>?_)
          (fun b hb=>by
           rw[oE,ae (by have:=hmL b hb;rw[hh1.n];omega),hoff _ b hb]
           exact congrFun hh1.blk b)
         ·have hn':(s1.apply o.dst e).n=((sp.atN s.n).apply o.dst e).n:=by rw[mZ,mZ,hh1.n];rfl
          have hG1:Good B nt (((sp.atN s.n).apply o.dst e).atN (s1.apply o.dst e).n) C' (a.put o.dst u) w':=(hG.step p').same ⟨rfl,hn',rfl,rfl⟩ fun _=>rfl
          obtain⟨f',dn',qs',ms',l',s',hD2,hnn,hn2,h2⟩:=qU hS f _ _ _ _ _ hke hD' fun b hb=>hG1.high b hb
          exact ih _ f' dn' qs' ms' l' s' _ C' _ w' h2 hn2 hD2 (hG1.atN hnn) hsz' hc'
         ·have:∀(r:List EL),qd s1 pr e.upd r=true->q∈r->xy s1 q.2.2 e.upd=true:=by
           intro r
           induction r with
           |nil=>intro _ h;cases h
           |cons y r ih2=>
            intro h hm
            simp only[qd,ar,cO]at h
            rcases aN.1 hm with rfl|hm
            ·exact h.1.resolve_left fun hb=>hnb (hprm _ hb)
            ·exact ih2 h.2 hm
          exact ij.apply _ hlt (this qs hsp.1 hq)
        ·cases hke
       ·cases h
      have hskip:∀s1:St,(∀x,s1.get x=s.get x)->SameH s s1->eN ops.toList o s1.get false->
        uC E T ops.toList (dm ops.toList []) f (i::dn) qs ms (p++q) (s1.put o.dst (.tup [])) k=some ans->wpOp P ops Q i (wpAny P .any ops Q fuel (listed.setIfInBounds i true)) a w:=by
       intro s1 hg1 hh1 hgd h
       unfold wpOp
       simp only[ho]
       rw[sK hG (hgd.of_get fun x hx=>(hlook x hx).trans (hg1 x).symm),ae (by simp)]
       have hD':=next s1 (sp.put o.dst (.tup [])) (s1.put o.dst (.tup [])) C.used (.tup []) hg1 hh1
        ⟨by rw[ry,ry];exact hD.same.np.trans hh1.np.symm,by rw[rv,rv];exact hD.same.al.trans hh1.al.symm,fun b hb=>by rw[gV];exact hD.same.off b hb,fun b hb=>by rw[gV,gV,hh1.blk];exact hD.same.on b hb⟩
        hD.nu (fun x=>by rw[lW]) (fun x=>by rw[lW]) (by rw[yM,hh1.n];exact bV _) (fun q _ _ _=>ij.of_blk (gV ..)) (fun b _=>by rw[gV,hh1.blk])
       have hG1:Good B nt ((sp.put o.dst (.tup [])).atN (s1.put o.dst (.tup [])).n) C (a.put o.dst undef) w:=by
        have:=hG.put hdo (v:= .tup []) (x:=undef) wn
        rw[GX]at this
        rw[yM,hh1.n]
        exact this
       obtain⟨f',dn',qs',ms',l',s',hD2,hnn,hn2,h2⟩:=qU hS f _ _ _ _ _ h hD' fun b hb=>hG1.high b hb
       exact ih _ f' dn' qs' ms' l' s' _ C _ w h2 hn2 hD2 (hG1.atN hnn) hsz' hc'
      split at h
      ·rename_i hg
       replace hg:o.guard=none:=hg
       exact hrun s (fun _=>rfl) (SameH.refl s) (by simp[eN,hg]) h
      ·rename_i j want hg
       replace hg:o.guard=some (j,want):=hg
       split at h
       ·cases h
       ·rename_i d hj
        split at h
        ·rename_i b hb
         rcases Fp h with ⟨rfl,h⟩|⟨rfl,h⟩
         ·cases want with
          |true=>exact hrun _ (jz s hb) ⟨rfl,rfl,rfl,rfl⟩ (by simp only[eN,hg];exact⟨d,hj,.inl ((jz s hb d).trans hb)⟩) h
          |false=>exact hskip _ (jz s hb) ⟨rfl,rfl,rfl,rfl⟩ (by simp only[eN,hg];exact⟨d,hj,.inl ((jz s hb d).trans hb)⟩) h
         ·cases want with
          |false=>exact hrun _ (jz s hb) ⟨rfl,rfl,rfl,rfl⟩ (by simp only[eN,hg];exact⟨d,hj,.inl ((jz s hb d).trans hb)⟩) h
          |true=>exact hskip _ (jz s hb) ⟨rfl,rfl,rfl,rfl⟩ (by simp only[eN,hg];exact⟨d,hj,.inl ((jz s hb d).trans hb)⟩) h
        ·rename_i hb
         exact hskip s (fun _=>rfl) (SameH.refl s) (by simp only[eN,hg];exact⟨d,hj,.inr ⟨trivial,hb⟩⟩) h
        ·cases h
end
end Go.Den
