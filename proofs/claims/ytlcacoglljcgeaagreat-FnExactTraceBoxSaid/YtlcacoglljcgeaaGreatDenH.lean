/- Theory for the proofs of this claim: see its last text. -/
import Derived.Test.YtlcacoglljcgeaaGreatDenF
import Derived.Shelf.Bodies2
import Derived.Shelf.RegionOpenPlain
import Derived.WalkKit
import Derived.Lib.Walk
import Derived.Lib.SliceRun
import Derived.Lib.JoinLaws
import Derived.Lib.AppendZerosOnto
import Derived.Laws.Externs
import Derived.Laws.IdiomCopy
import Derived.Laws.NewBlocks
set_option linter.unusedVariables false
set_option linter.unusedSimpArgs false
namespace Go.Den
open Go.RowKit Go.Lib Go.Shelf Go.Proofs
section
variable {P:Program}{ρ:Ren}
structure InsL (P:Program)(ρ:Ren):Prop where
 mixed:P.follows .mixedOrders=true
 f22:P.funcs[ρ.f 22]? =some {Body2.n22 ρ with name:= "slices.Insert[[]loop.example/g00664/impl.Page,loop.example/g00664/impl.Page]" }
 f29:P.funcs[ρ.f 29]? =some {Body2.n29 ρ with name:= "slices.overlaps[loop.example/g00664/impl.Page]" }
 t3:P.underlying (ρ.t 3)=some (TypeDesc.int IntKind.i64)
 a3:∀w,(isAgg (ρ.t 3)).run P w= .ok false w
 t4:P.underlying (ρ.t 4)=some (TypeDesc.bool)
 a4:∀w,(isAgg (ρ.t 4)).run P w= .ok false w
 t24:P.underlying (ρ.t 24)=some (TypeDesc.slice (ρ.t 9))
 a24:∀w,(isAgg (ρ.t 24)).run P w= .ok false w
 z9:∀w,(Go.sizeOf (ρ.t 9)).run P w= .ok 3 w
 i9:(P.info? (ρ.t 9)).map (fun i=>(i.zero,i.size,i.bytes))=some (some (Value.agg #[.int .i64 0,.int .i64 0,.string ⟨#[]⟩]),3,32)
theorem Fc (w:World){o:Oper}{a:Act}{K:Act->World->Prop}{Q:Exit->Act->World->Prop}(d s:Operand)(t t':TypeId)
  (ho:o.op= .call {callee:= .builtin .copy,args:= #[d,s],argTypes:= #[t,t']}) (v u:Value) (hd:a.eval d=v) (hs:a.eval s=u) {v':Value} {w':World}
  (hr:(Builtin.copy_ #[t,t'] o.type #[v,u]).run P w= .ok v' w') (h:K (a.put o.dst v') w'):o.wp P a w K Q:=by
 unfold Oper.wp execOp
 simp only[ho,resolve,invoke,builtin,Sem.run_bind,Sem.run_pure,Result.andThen_ok,List.map_toArray,List.map_cons,List.map_nil,hd,hs,hr]
 exact h
theorem mj (w:World){ops:Array Oper}{rest:List Oper}{o:Oper}{a:Act}{Q:Exit->Act->World->Prop}(hgd:o.guard=none)(d s:Operand)(t t':TypeId)
  (ho:o.op= .call {callee:= .builtin .copy,args:= #[d,s],argTypes:= #[t,t']}) (v u:Value) (hd:a.eval d=v) (hs:a.eval s=u) {v':Value} {w':World}
  (hr:(Builtin.copy_ #[t,t'] o.type #[v,u]).run P w= .ok v' w') (h:wpList P ops Q rest (a.put o.dst v') w'):wpList P ops Q (o::rest) a w:=
 wpList_plain hgd fun _ hK=>Fc w d s t t' ho v u hd hs hr (hK _ _ h)
theorem so {ops:Array Oper}{o:Oper}{a:Act}{w:World}{K:Act->World->Prop}{Q:Exit->Act->World->Prop}{E:Prop}
  (hg:o.guard=none) (d x:Operand) (dT sT:TypeId) (hop:o.op=Op.call {callee:=Callee.builtin Builtin.copy,args:= #[d,x],argTypes:= #[dT,sT]})
  (v u:Value) (hd:a.eval d=v) (hx:a.eval x=u) {v':Value} {w':World} (hr:(Builtin.copy_ #[dT,sT] o.type #[v,u]).run P w= .ok v' w') (hK:K (a.put o.dst v') w'):
  if Region.wanted o (yielded ops a.tmps)=true then Oper.wp P o a w K Q else E:=by
 have hw:Region.wanted o (yielded ops a.tmps)=true:=by simp[Region.wanted,hg]
 rw[if_pos hw]
 unfold Oper.wp
 simp[execOp,hop,resolve,invoke,builtin,hd,hx,hr,Result.andThen]
 exact hK
theorem ns (w:World)(dT sT ty elem:TypeId)(b o dLen dCap:Nat)(a:Addr)(sLen sCap:Nat)(cs:List Value)(sz n:Nat)
  (hu:P.underlying dT=some (.slice elem)) (hs:(P.info? elem).map (·.size)=some sz) (hn:Nat.min sLen dLen=n) (hl:cs.length=n*sz)
  (hsrc:∀j v,cs[j]? =some v->w.cell? (a.add j)=some v) (hc:∀j,j<cs.length->(w.cell? ⟨b,o+j,none⟩).isSome=true) (hf:∀j,j<cs.length->w.frozen? ⟨b,o+j,none⟩=false) (h1:∀v∈cs,v.oneCell'=true):
  (Builtin.copy_ #[dT,sT] ty #[.slice (some ⟨b,o,none⟩) dLen dCap,.slice (some a) sLen sCap]).run P w= .ok (goInt n) (w.setCells b o cs):=by
 have hl':=run_loadCells_list (P:=P) w a cs hsrc
 rw[hl]at hl'
 have hst:=run_storeCells_cells (P:=P) b o cs 0 w (by simpa using hc) (by simpa using hf) h1
 cases hq:P.info? elem with
 |none=>simp[hq]at hs
 |some i=>
  have hi:i.size=sz:=by simpa[hq]using hs
  simp[Builtin.copy_,run_underlying hu,Builtin.lenOf,Builtin.firstCells,sizeOf,typeInfo,hq,hi,hn,hl',hst]
theorem sO (w:World)(tS tR e:TypeId)(ht:P.underlying tS=some (.slice e))(size:Nat)(hz:∀w,(Go.sizeOf e).run P w= .ok size w)
  (a b:Addr) (la ca lb cb:Nat) (hne:a.block≠b.block) (tA tB:TypeId) (kA kB:Nat)
  (hsa:w.shape? a.block=some (tA,kA)) (hsb:w.shape? b.block=some (tB,kB)) (hkA:kA≠0)
  (hfb:w.frozen? b=false) (hfe:w.frozen? {block:=b.block,off:=kB}=false):
  (Extern.SlicesOverlaps.overlaps #[tS,tS] #[tR] #[.slice (some a) la ca,.slice (some b) lb cb]).run P w= .ok (.bool false) w:=by
 have hnb:(a.block != b.block)=true:=by simpa using hne
 have hnb':(a.block==b.block)=false:=by simpa using hne
 change Sem.run P (α:=Value) (do
  let some t:=(#[tS,tS]:Array TypeId)[0]? |stuck "slices.overlaps: no parameter types"
  let .slice elem<-underlying t|stuck "slices.overlaps: slice type expected"
  let size<-sizeOf elem
  match(some a:Option Addr),(some b:Option Addr)with
  |some a,some b=>
   if la=0\/lb=0\/size=0 then pure (Value.bool false)
   else if a.block != b.block&&(<-frozen a)&&(<-frozen b)then unsupported .addressObserved
   else do
    if a.block != b.block then do
     noView a;noView b
     if<-mayBeOne a b then return Value.bool ((<-choose (.extern "sameAddr.stringBytes" 2))==1)
    pure (Value.bool (a.block==b.block&&a.off<b.off+lb*size&&b.off<a.off+la*size))
  |_,_=>pure (Value.bool false)) w=_
 by_cases h0:la=0\/lb=0\/size=0
 ·simp[run_underlying ht,hz,h0]
 ·cases kA with
  |zero=>exact absurd rfl hkA
  |succ kA=>
   cases hfa:w.frozen? a<;>cases hfa':w.frozen? {block:=a.block,off:=kA+1}<;>
    simp[run_underlying ht,hz,h0,hnb,hnb',frozen,noView,viewAt,mayBeOne,stringish,shape,Sem.run,hsa,hsb,hfa,hfa',hfb,hfe]
theorem yB (L:InsL P ρ)(base:Option Addr)(n c vb voff vc:Nat)(w:World)(hnc:n<=c)(hc63:n<=4611686018427387904)(hnil:base=none->n=0/\c=0){u:Value}{w':World}
  (hrun:∀ty,(Builtin.append_ #[ρ.t 24,ρ.t 24] ty #[.slice base n c,.slice (some ⟨vb,voff,none⟩) 1 vc]).run P w= .ok u w'):
  Calls P (ρ.f 22) #[.slice base n c,.int .i64 n,.slice (some ⟨vb,voff,none⟩) 1 vc] w fun e w''=>e= .returned u/\w''=w':=by
 have t3:=L.t3;have a3:=L.a3;have t4:=L.t4;have a4:=L.a4;have t24:=L.t24;have a24:=L.a24;have z9:=L.z9
 have u3:=run_underlying L.t3;have u4:=run_underlying L.t4;have u24:=run_underlying L.t24
 have mixed:=L.mixed
 go_enter L.f22,Body2.n22_ntmps ρ
 cases base with
 |none=>
  obtain⟨h0,hc0⟩:=hnil rfl
  subst h0 hc0
  go_wp2_with (at_builtin;refine Lib.wpList_append_run _ rfl _ _ _ _ rfl _ _ rfl rfl _ _ (hrun _) ?_)
  all_goals (go_ret;exact⟨rfl,rfl⟩)
 |some a=>
  obtain⟨ab,ao,asp⟩:=a
  go_wp2_with (at_builtin;refine Lib.wpList_append_run _ rfl _ _ _ _ rfl _ _ rfl rfl _ _ (hrun _) ?_)
  all_goals (go_ret;exact⟨rfl,rfl⟩)
theorem lP (b:Nat)(vs:List Value)(o:Nat)(w:World)(h:∀j,j<vs.length->(w.cell? ⟨b,o+j,none⟩).isSome=true)(k:Nat)(hk:(w.cell? ⟨b,k,none⟩).isSome=true):((w.setCells b o vs).cell? ⟨b,k,none⟩).isSome=true:=by
 by_cases hin:o<=k/\k<o+vs.length
 ·have:=World.cell?_setCells_in b vs o w h (k-o) (by omega)
  rw[show o+(k-o)=k by omega]at this
  rw[this];rfl
 ·rw[World.cell?_setCells_out b vs o w ⟨b,k,none⟩ (fun _ _=>by show k<o\/o+vs.length<=k;omega)]
  exact hk
set_option maxHeartbeats 4000000 in
set_option maxRecDepth 100000 in
theorem Ds (L:InsL P ρ)(b n c i vb voff vc:Nat)(cs vs:List Value)(w:World)(hi:i<n)(hroom:n+1<=c)(hc63:n<=4611686018427387904)(hvb:vb≠b)
  (hcl:cs.length=n*3) (hvl:vs.length=3)
  (hcs:∀j v,cs[j]? =some v->w.cell? ⟨b,j,none⟩=some v) (hsp:∀j,j<(n+1)*3->(w.cell? ⟨b,j,none⟩).isSome=true) (hfz:∀j,j<(n+1)*3->w.frozen? ⟨b,j,none⟩=false)
  (hvs:∀j v,vs[j]? =some v->w.cell? ⟨vb,voff+j,none⟩=some v) (h1c:∀v∈cs,v.oneCell'=true) (h1v:∀v∈vs,v.oneCell'=true)
  (tA tB:TypeId) (kA kB:Nat) (hsa:w.shape? vb=some (tA,kA)) (hsb:w.shape? b=some (tB,kB)) (hkA:kA≠0) (hfe:w.frozen? ⟨b,kB,none⟩=false):
  Calls P (ρ.f 22) #[.slice (some ⟨b,0,none⟩) n c,.int .i64 i,.slice (some ⟨vb,voff,none⟩) 1 vc] w fun e w'=>
   e= .returned (.slice (some ⟨b,0,none⟩) (n+1) c)/\w'=(w.drew.setCells b ((i+1)*3) (cs.drop (i*3))).setCells b (i*3) vs:=by
 have t3:=L.t3;have a3:=L.a3;have t4:=L.t4;have a4:=L.a4;have t24:=L.t24;have a24:=L.a24;have z9:=L.z9
 have u3:=run_underlying L.t3;have u4:=run_underlying L.t4;have u24:=run_underlying L.t24
 have hz2:¬((i:Int)=(n:Int)):=by omega
 have hsz:(P.info? (ρ.t 9)).map (·.size)=some 3:=by
  obtain⟨i0,hi0,h0,h1,h2⟩:=info_parts L.i9
  rw[hi0];simp[h1]
 have hov:∀lb cb,(callFunc (ρ.f 29) #[.slice (some ⟨vb,voff,none⟩) 1 vc,.slice (some ⟨b,(i+1)*3,none⟩) lb cb]).run P w= .ok (.value (.bool false)) w:=fun lb cb=>by
  rw[run_callFunc_extern L.f29 (by kernel_rfl) (by kernel_rfl) (by kernel_rfl) (e:=Extern.SlicesOverlaps.overlaps #[(ρ.t 24),(ρ.t 24)] #[(ρ.t 4)]) (by kernel_rfl),
   sO w (ρ.t 24) (ρ.t 4) (ρ.t 9) L.t24 3 L.z9 ⟨vb,voff,none⟩ ⟨b,(i+1)*3,none⟩ 1 vc lb cb hvb tA tB kA kB hsa hsb hkA (hfz _ (by omega)) hfe]
  rfl
 have hdl:(cs.drop (i*3)).length=(n-i)*3:=by rw[List.length_drop,hcl,Nat.sub_mul]
 have mixed:=L.mixed
 have hw1:IntKind.i64.wrap ((i:Int)+1)=(i:Int)+1:=by rw[IntKind.wrap_i64];omega
 have hb1:(0:Int)<=(i:Int)+1:=by omega
 have hin:i<=n:=by omega
 have htn:((i:Int)+1).toNat=i+1:=by omega
 have hb2:¬(c=i+1):=by omega
 have hb3:(i:Int)<=(n:Int)+1:=by omega
 have hb4:¬(c=i):=by omega
 have hcp1:∀ty dc sc,(Builtin.copy_ #[(ρ.t 24),(ρ.t 24)] ty #[.slice (some ⟨b,(i+1)*3,none⟩) (n-i) dc,.slice (some ⟨b,i*3,none⟩) (n+1-i) sc]).run P w.drew= .ok (goInt ((n-i:Nat):Int)) (w.drew.setCells b ((i+1)*3) (cs.drop (i*3))):=fun ty dc sc=>
  ns w.drew _ _ ty (ρ.t 9) b ((i+1)*3) (n-i) dc ⟨b,i*3,none⟩ (n+1-i) sc (cs.drop (i*3)) 3 (n-i) L.t24 hsz (by simp only[Nat.min_def];split<;>omega) hdl
   (fun j v hj=>by rw[Addr.add_lit];exact hcs (i*3+j) v (by rwa [List.getElem?_drop]at hj))
   (fun j hj=>hsp _ (by omega)) (fun j hj=>hfz _ (by omega)) (fun v hv=>h1c v (List.mem_of_mem_drop hv))
 obtain⟨W1,hW1⟩:∃W1,W1=w.drew.setCells b ((i+1)*3) (cs.drop (i*3)):=⟨_,rfl⟩
 have hsp1:∀k,k<(n+1)*3->(W1.cell? ⟨b,k,none⟩).isSome=true:=fun k hk=>by
  rw[hW1]
  exact lP b (cs.drop (i*3)) ((i+1)*3) w.drew (fun j hj=>hsp _ (by omega)) _ (hsp k hk)
 have hcp2:∀(W:World),(∀x,W.cell? x=W1.cell? x)->(∀x,W.frozen? x=W1.frozen? x)->∀ty dc,(Builtin.copy_ #[(ρ.t 24),(ρ.t 24)] ty #[.slice (some ⟨b,i*3,none⟩) (n+1-i) dc,.slice (some ⟨vb,voff,none⟩) 1 vc]).run P W= .ok (goInt 1) (W.setCells b (i*3) vs):=fun W hWc hWf ty dc=>
  ns W _ _ ty (ρ.t 9) b (i*3) (n+1-i) dc ⟨vb,voff,none⟩ 1 vc vs 3 1 L.t24 hsz (by simp only[Nat.min_def];split<;>omega) hvl
   (fun j v hj=>by
    rw[Addr.add_lit,hWc,hW1,World.cell?_setCells_out b _ _ _ _ (fun h _=>absurd h hvb)]
    exact hvs j v hj)
   (fun j hj=>by rw[hWc];exact hsp1 _ (by omega)) (fun j hj=>by rw[hWf,hW1,World.frozen?_setCells];exact hfz _ (by omega)) h1v
 rw[<-hW1]at hcp1
 go_enter L.f22,Body2.n22_ntmps ρ
 go_wp2_with (simp only[hov])
 go_region_law_o (refine so rfl _ _ (ρ.t 24) (ρ.t 24) rfl _ _ (by simp[Act.eval,Act.put]) (by simp[Act.eval,Act.put]) (hcp1 _ _ _) ?_)
 go_wp2_with (at_builtin;refine mj _ rfl _ _ (ρ.t 24) (ρ.t 24) rfl _ _ rfl rfl (hcp2 _ (fun _=>rfl) (fun _=>rfl) _ _) ?_)
 go_ret
 first|exact⟨rfl,rfl⟩|exact⟨rfl,by rw[hW1]⟩
set_option maxHeartbeats 4000000 in
set_option maxRecDepth 100000 in
theorem Gc (L:InsL P ρ)(b n c i vb voff vc:Nat)(cs vs:List Value)(w:World)(hi:i<n)(hnc:n<=c)(hroom:c<n+1)(hbig:(n+1)*32<=140737488355328)(hvb:vb≠b)
  (hcl:cs.length=n*3) (hvl:vs.length=3)
  (hcs:∀j v,cs[j]? =some v->w.cell? ⟨b,j,none⟩=some v)
  (hvs:∀j v,vs[j]? =some v->w.cell? ⟨vb,voff+j,none⟩=some v) (h1c:∀v∈cs,v.oneCell'=true) (h1v:∀v∈vs,v.oneCell'=true):
  Calls P (ρ.f 22) #[.slice (some ⟨b,0,none⟩) n c,.int .i64 i,.slice (some ⟨vb,voff,none⟩) 1 vc] w fun e w'=>
   e= .returned (.slice (some ⟨w.heap.size,0,none⟩) (n+1) (grownCap w (n+1) c (ρ.t 9)))/\
   w'=(((w.alloc (.cells ((cs.take (i*3)).toArray++Builtin.zeroCells #[.int .i64 0,.int .i64 0,.string ⟨#[]⟩] (n+1-i)++Builtin.zeroCells #[.int .i64 0,.int .i64 0,.string ⟨#[]⟩] (grownCap w (n+1) c (ρ.t 9)-(n+1))) (ρ.t 9))).drew.setCells w.heap.size (i*3) vs).drew).setCells w.heap.size ((i+1)*3) (cs.drop (i*3)):=by
 have t3:=L.t3;have a3:=L.a3;have t4:=L.t4;have a4:=L.a4;have t24:=L.t24;have a24:=L.a24;have z9:=L.z9
 have u3:=run_underlying L.t3;have u4:=run_underlying L.t4;have u24:=run_underlying L.t24
 have mixed:=L.mixed
 obtain⟨i0,hi0,hz0,hzs,hzb⟩:=info_parts L.i9
 have hz2:¬((i:Int)=(n:Int)):=by omega
 have hz3:(c:Int)<(n:Int)+1:=by omega
 have hsz:(P.info? (ρ.t 9)).map (·.size)=some 3:=by rw[hi0];simp[hzs]
 have hbw:b<w.heap.size:=block_lt_of_cell (hcs 0 _ (List.getElem?_eq_getElem (by omega)))
 have hvw:vb<w.heap.size:=block_lt_of_cell (hvs 0 _ (List.getElem?_eq_getElem (by omega)))
 have hkk:(n:Int)+1-(i:Int)=((n+1-i:Nat):Int):=by omega
 have hik:i+(n+1-i)=n+1:=by omega
 have hold:(Builtin.firstCells i0.size i (.slice (some ⟨b,0,none⟩) i c)).run P w.drew= .ok (cs.take (i*3)).toArray w.drew:=by
  rw[hzs]
  exact run_firstCells_some w.drew 3 i ⟨b,0,none⟩ i c (cs.take (i*3)) (by rw[List.length_take];omega) (fun j v hj=>by
   rw[Addr.add_lit,Nat.zero_add]
   rw[List.getElem?_take]at hj
   split at hj
   ·exact hcs j v hj
   ·cases hj)
 have hrz:∀ty,(Builtin.append_ #[(ρ.t 24),(ρ.t 3)] ty #[.slice (some ⟨b,0,none⟩) i c,.int .i64 ((n:Int)+1-(i:Int))]).run P w=
   .ok (.slice (some ⟨w.heap.size,0,none⟩) (n+1) (grownCap w (n+1) c (ρ.t 9))) (w.drew.alloc (.cells ((cs.take (i*3)).toArray++Builtin.zeroCells #[.int .i64 0,.int .i64 0,.string ⟨#[]⟩] (n+1-i)++Builtin.zeroCells #[.int .i64 0,.int .i64 0,.string ⟨#[]⟩] (grownCap w (n+1) c (ρ.t 9)-(n+1))) (ρ.t 9))):=fun ty=>by
  have h:=Lib.run_append_grow_zeros w (ρ.t 24) (ρ.t 3) ty (ρ.t 9) i0 _ .i64 .i64 L.t24 L.t3 hi0 hz0 (some ⟨b,0,none⟩) i c (cs.take (i*3)) hold (n+1-i) (by omega) (by omega) (by omega) (by omega) (by rw[hzb];omega) (by rw[hzb,hik];exact growslice_fits hroom hbig)
  rw[hik]at h
  rw[hkk]
  exact h
 obtain⟨G,hG⟩:∃G,G=grownCap w (n+1) c (ρ.t 9):=⟨_,rfl⟩
 obtain⟨ROW,hROW⟩:∃ROW:Array Value,ROW=(cs.take (i*3)).toArray++Builtin.zeroCells #[.int .i64 0,.int .i64 0,.string ⟨#[]⟩] (n+1-i)++Builtin.zeroCells #[.int .i64 0,.int .i64 0,.string ⟨#[]⟩] (G-(n+1)):=⟨_,rfl⟩
 rw[<-hG]at hrz|-
 rw[<-hROW]at hrz|-
 have hRl:(n+1)*3<=ROW.size:=by
  rw[hROW]
  simp[Builtin.zeroCells,hcl]
  omega
 obtain⟨W1,hW1⟩:∃W1,W1=w.drew.alloc (.cells ROW (ρ.t 9)):=⟨_,rfl⟩
 rw[<-hW1]at hrz
 have hN:∀j,j<(n+1)*3->(W1.cell? ⟨w.heap.size,j,none⟩).isSome=true:=fun j hj=>by
  rw[hW1,World.cell?_alloc_at (w:=w.drew) ROW _ w.heap.size j rfl,Array.getElem?_eq_getElem (by omega)];rfl
 have hNf:∀j,W1.frozen? ⟨w.heap.size,j,none⟩=false:=fun j=>by rw[hW1];exact World.frozen?_alloc_at (w:=w.drew) ROW _ w.heap.size j rfl
 have hOb:∀j v,w.cell? ⟨b,j,none⟩=some v->W1.cell? ⟨b,j,none⟩=some v:=fun j v h=>by rw[hW1,World.cell?_alloc_past (w:=w.drew) _ b j hbw];exact h
 have hOv:∀j v,w.cell? ⟨vb,j,none⟩=some v->W1.cell? ⟨vb,j,none⟩=some v:=fun j v h=>by rw[hW1,World.cell?_alloc_past (w:=w.drew) _ vb j hvw];exact h
 have hcpA:∀(W:World),(∀x,W.cell? x=W1.cell? x)->(∀x,W.frozen? x=W1.frozen? x)->∀ty dc,(Builtin.copy_ #[(ρ.t 24),(ρ.t 24)] ty #[.slice (some ⟨w.heap.size,i*3,none⟩) (n+1-i) dc,.slice (some ⟨vb,voff,none⟩) 1 vc]).run P W= .ok (goInt 1) (W.setCells w.heap.size (i*3) vs):=fun W hWc hWf ty dc=>
  ns W _ _ ty (ρ.t 9) w.heap.size (i*3) (n+1-i) dc ⟨vb,voff,none⟩ 1 vc vs 3 1 L.t24 hsz (by simp only[Nat.min_def];split<;>omega) hvl
   (fun j v hj=>by rw[Addr.add_lit,hWc];exact hOv _ v (hvs j v hj))
   (fun j hj=>by rw[hWc];exact hN _ (by omega)) (fun j hj=>by rw[hWf];exact hNf _) h1v
 have hGn:n+1<=G:=by rw[hG];exact grownCap_ge w _ _ _
 have hG63:G<=9223372036854775807:=by
  have:=grownCap_le_maxLen w (n+1) c (ρ.t 9) (by unfold Go.maxLen;omega)
  rw[<-hG]at this
  unfold Go.maxLen at this
  omega
 have hGi:¬(G=i):=by omega
 have hGim:¬(G=i+1):=by omega
 have hci:¬(c=i):=by omega
 have hbN:b≠w.heap.size:=by omega
 have hdl:(cs.drop (i*3)).length=(n-i)*3:=by rw[List.length_drop,hcl,Nat.sub_mul]
 have hcpB:∀(W:World),(∀x,W.cell? x=(W1.setCells w.heap.size (i*3) vs).cell? x)->(∀x,W.frozen? x=(W1.setCells w.heap.size (i*3) vs).frozen? x)->∀ty dc sc,(Builtin.copy_ #[(ρ.t 24),(ρ.t 24)] ty #[.slice (some ⟨w.heap.size,(i+1)*3,none⟩) (n-i) dc,.slice (some ⟨b,i*3,none⟩) (n-i) sc]).run P W= .ok (goInt ((n-i:Nat):Int)) (W.setCells w.heap.size ((i+1)*3) (cs.drop (i*3))):=fun W hWc hWf ty dc sc=>
  ns W _ _ ty (ρ.t 9) w.heap.size ((i+1)*3) (n-i) dc ⟨b,i*3,none⟩ (n-i) sc (cs.drop (i*3)) 3 (n-i) L.t24 hsz (by simp only[Nat.min_def];split<;>omega) hdl
   (fun j v hj=>by
    rw[Addr.add_lit,hWc,World.cell?_setCells_out _ _ _ _ _ (fun h _=>absurd h hbN)]
    exact hOb _ v (hcs (i*3+j) v (by rwa [List.getElem?_drop]at hj)))
   (fun j hj=>by rw[hWc];exact lP _ _ _ _ (fun t ht=>hN _ (by omega)) _ (hN _ (by omega)))
   (fun j hj=>by rw[hWf,World.frozen?_setCells];exact hNf _) (fun v hv=>h1c v (List.mem_of_mem_drop hv))
 subst hW1
 have hE1:∀x,((w.alloc (.cells ROW (ρ.t 9))).drew).cell? x=(w.drew.alloc (.cells ROW (ρ.t 9))).cell? x:=fun x=>rfl
 have hE2:∀x,((w.alloc (.cells ROW (ρ.t 9))).drew).frozen? x=(w.drew.alloc (.cells ROW (ρ.t 9))).frozen? x:=fun x=>rfl
 have hF1:∀x,(((w.alloc (.cells ROW (ρ.t 9))).drew.setCells w.heap.size (i*3) vs).drew).cell? x=((w.drew.alloc (.cells ROW (ρ.t 9))).setCells w.heap.size (i*3) vs).cell? x:=fun x=>rfl
 have hF2:∀x,(((w.alloc (.cells ROW (ρ.t 9))).drew.setCells w.heap.size (i*3) vs).drew).frozen? x=((w.drew.alloc (.cells ROW (ρ.t 9))).setCells w.heap.size (i*3) vs).frozen? x:=fun x=>rfl
 have hw1:IntKind.i64.wrap ((i:Int)+1)=(i:Int)+1:=by rw[IntKind.wrap_i64];omega
 have hb1:(0:Int)<=(i:Int)+1:=by omega
 have hin:i<=n:=by omega
 have htn:((i:Int)+1).toNat=i+1:=by omega
 have hb3:(i:Int)<=(n:Int):=by omega
 clear hkk hik hold hROW hG hRl
 go_enter L.f22,Body2.n22_ntmps ρ
 go_wp2_with (first
  |(at_builtin;refine Lib.wpList_append_run _ rfl _ _ _ _ rfl _ _ rfl rfl _ _ (hrz _) ?_)
  |(at_builtin;refine mj _ rfl _ _ (ρ.t 24) (ρ.t 24) rfl _ _ rfl rfl (hcpA _ hE1 hE2 _ _) ?_)
  |(at_builtin;refine mj _ rfl _ _ (ρ.t 24) (ρ.t 24) rfl _ _ rfl rfl (hcpB _ (fun _=>rfl) (fun _=>rfl) _ _ _) ?_))
 go_region_law_o (refine so rfl _ _ (ρ.t 24) (ρ.t 24) rfl (.slice (some ⟨w.heap.size,(i+1)*3,none⟩) (n-i) (G-(i+1))) (.slice (some ⟨b,i*3,none⟩) (n-i) (c-i)) (by simp[Act.eval,Act.put]) (by simp[Act.eval,Act.put]) (hcpB _ hF1 hF2 (ρ.t 3) (G-(i+1)) (c-i)) ?_)
 go_wp2
 go_ret
 exact⟨rfl,rfl⟩
end
end Go.Den
namespace Go.Den
open Go.RowKit Go.Lib Go.Shelf Go.Proofs
section
variable {P:Program}{R:AV->Value->Prop}{tg:Tag}
theorem wP {xs ys:List (El tg)}{cs bs:List Value}(h:ka R tg xs cs)(g:ka R tg ys bs):ka R tg (xs++ys) (cs++bs):=by
 refine⟨by simp[h.1,g.1,Nat.add_mul],fun i x hx j a ha=>?_⟩
 rw[List.getElem?_append]at hx
 split at hx
 ·obtain⟨v,hv,hr⟩:=h.2 i x hx j a ha
  exact⟨v,by rw[List.getElem?_append_left (List.getElem?_eq_some_iff.1 hv).1];exact hv,hr⟩
 ·rename_i hi
  obtain⟨v,hv,hr⟩:=g.2 (i-xs.length) x hx j a ha
  have e:i*esz tg+j=cs.length+((i-xs.length)*esz tg+j):=by rw[h.1,<-Nat.add_assoc,<-Nat.add_mul];congr 2;omega
  exact⟨v,by rw[e,List.getElem?_append_right (by omega)];simpa using hv,hr⟩
theorem Bq {xs:List (El tg)}{cs:List Value}(h:ka R tg xs cs){i:Nat}(hi:i<=xs.length):ka R tg (xs.take i) (cs.take (i*esz tg)):=by
 have hm:i*esz tg<=xs.length*esz tg:=Nat.mul_le_mul_right _ hi
 refine⟨by rw[List.length_take,List.length_take,h.1,Nat.min_eq_left hi,Nat.min_eq_left hm],fun k x hx j a ha=>?_⟩
 have hj:j<esz tg:=by rw[<-dy tg x];exact(List.getElem?_eq_some_iff.1 ha).1
 rw[List.getElem?_take]at hx
 split at hx
 ·rename_i hk
  obtain⟨v,hv,hr⟩:=h.2 k x hx j a ha
  have:=Nat.mul_le_mul_right (esz tg) (show k+1<=i by omega)
  rw[Nat.succ_mul]at this
  exact⟨v,by rw[List.getElem?_take,if_pos (by omega)];exact hv,hr⟩
 ·cases hx
theorem Bp {xs:List (El tg)}{cs:List Value}(h:ka R tg xs cs)(i:Nat):ka R tg (xs.drop i) (cs.drop (i*esz tg)):=by
 refine⟨by rw[List.length_drop,List.length_drop,h.1,Nat.sub_mul],fun k x hx j a ha=>?_⟩
 rw[List.getElem?_drop]at hx
 obtain⟨v,hv,hr⟩:=h.2 (i+k) x hx j a ha
 exact⟨v,by rw[List.getElem?_drop,<-Nat.add_assoc,<-Nat.add_mul];exact hv,hr⟩
theorem rG {xs:List (El tg)}{cs:List Value}(h:ka R tg xs cs){arr:Array Value}(hs:cs.length<=arr.size)(hg:∀(k:Nat) (v:Value),cs[k]? =some v->arr[k]? =some v):RowC R tg xs arr:=
 ⟨by rw[<-h.1];exact hs,fun i x hx j a ha=>let ⟨v,hv,hr⟩:=h.2 i x hx j a ha;⟨v,hg _ _ hv,hr⟩⟩
variable {B:Bs}{s:St}{C:Cx}
theorem lg (s:St)(b:Nat)(x:Blk)(i:Nat):({s with h:=(b,x)::s.h}:St).blk i=if i=b then x else s.blk i:=by
 simp only[St.blk,look_cons]
 by_cases e:b=i
 ·rw[if_pos e,if_pos e.symm]
 ·rw[if_neg e,if_neg (fun g=>e g.symm)]
theorem Ax (hI:Inv B s C){b c n:Nat}{xs zs:List (El tg)}(hb:s.blk b= .row tg xs false)(hc:C.loc b=some c)(hmw:b<B.np->∀o,gK B b o)(hn:¬C.used n)
  {w':World} {arr arr':Array Value} {T:TypeId} {fr:Nat×Nat} (hh:C.w.heap[c]? =some (.cells arr T fr)) (hne:NE tg arr fr) (hh':w'.heap[c]? =some (.cells arr' T fr)) (hs:arr'.size=arr.size)
  (hsz:w'.heap.size=C.w.heap.size) (hos:w'.os=C.w.os/\w'.tape=C.w.tape/\w'.output=C.w.output) (hot:∀k,k≠c->w'.heap[k]? =C.w.heap[k]?) (hle:xs.length<=zs.length) (hr:RowC (R1 C.w C.ok) tg zs arr') {s':St}
  (hblk:∀i,s'.blk i=if i=n then .row tg zs false else if i=b then .gone else s.blk i) (hnp:s'.np=s.np) (hal:s'.al=s.al):
  ∃C',C'.w=w'/\Inv B s' C'/\Ext C C'/\(∀i,C'.used i↔C.used i\/i=n)/\∀cap,zs.length<=cap->cap*esz tg<=arr.size->TR C' (.vec n) (.slice (some ⟨c,0,none⟩) zs.length cap):=by
 have hng:s.blk b≠ .gone:=by rw[hb];simp
 obtain⟨hI2,hE2⟩:=uJ (s':={s with h:=(b,.row tg (zs.take xs.length) false)::s.h}) (nb:= .row tg (zs.take xs.length) false) (w':=w') hI hc (by rw[hb];rfl) hsz hos hot
  (fun x hx=>by simp only[World.shape?,hh,hh',hs]at hx|-;exact hx) (by rw[hb];exact .inr ⟨trivial,_,_,rfl,by simp[hle],id⟩)
  (fun x hx=>by
   rw[hb]at hx
   refine⟨fun cs0 h0=>?_,fun ds e=>by cases e⟩
   obtain⟨ds,e1,e2⟩:=hx.1 cs0 h0
   cases e1) (fun hbn o ho=>absurd (hmw hbn o) ho) (fun hbn=> .inl ⟨0,hmw hbn 0⟩) rfl
  (fun E=>by
   have hcl:(C.upd w' b (.row tg (zs.take xs.length) false)).loc b=some c:=hc
   simp only[BR,hcl]
   refine⟨arr',T,fr,hh',⟨Nat.le_trans (Nat.mul_le_mul_right _ (by rw[List.length_take];omega)) hr.1,fun i x hx j a ha=>?_⟩,fun _=>hne.of hs⟩
   rw[List.getElem?_take]at hx
   split at hx
   ·obtain⟨v,hv,hrr⟩:=hr.2 i x hx j a ha
    exact⟨v,hv,hrr.ext E⟩
   ·cases hx) (fun i=>lg s b _ i) rfl rfl
 obtain⟨hI3,hE3⟩:=qy (b:=b) (t:=tg) (xs:=zs.take xs.length) (f:=false) (s':={s with h:=(b,.gone)::s.h}) hI2 (by rw[lg,if_pos rfl]) hmw (fun i=>by rw[lg,lg];split<;>rfl) rfl rfl
 obtain⟨hI4,hE4⟩:=wx (n:=n) (c:=c) (nb:= .row tg zs false) (s':=s') hI3 hn (by
   show c<w'.heap.size
   rw[hsz];exact hI.lt b c hc) (fun h=>(hI.okd c h).2 b (by rw[hb];rfl) hc) (fun i hi hl=>by
   rw[lg]at hi
   by_cases e:i=b
   ·rw[if_pos e]at hi;exact hi rfl
   ·rw[if_neg e]at hi;exact e (hI.inj i b c hi hng hl hc)) (by
   rcases hI.own b c hng hc with ⟨i,i1,i2,i3⟩|h
   ·refine .inl ⟨i,i1,i2,?_⟩
    rcases i3 with rfl|i3
    ·exact hmw i1
    ·exact i3
   ·exact .inr h) (fun E=>by
   simp only[BR,Cx.push,if_true]
   refine⟨arr',T,fr,hh',⟨hr.1,fun i x hx j a ha=>?_⟩,fun _=>hne.of hs⟩
   obtain⟨v,hv,hrr⟩:=hr.2 i x hx j a ha
   exact⟨v,hv,((hrr.ext hE2).ext hE3).ext E⟩) (fun i=>by rw[hblk,lg]) hnp hal
 refine⟨_,rfl,hI4,(hE2.trans hE3).trans hE4,fun i=>Iff.rfl,fun cap h1 h2=>?_⟩
 refine⟨.inr rfl,⟨_,_,_,rfl⟩,?_⟩
 simp only[Cx.push,if_true]
 exact⟨cap,T,arr.size,rfl,h1,by show w'.shape? c=_;simp only[World.shape?,hh',hs],h2⟩
theorem se (hI:Inv B s C){b n:Nat}{xs zs:List (El tg)}(hb:s.blk b= .row tg xs false)(hmw:b<B.np->∀o,gK B b o)(hn:¬C.used n)
  {w':World} (hw:Below C.w.heap.size C.w w') {arr:Array Value} {T:TypeId} {fr:Nat×Nat} (hat:w'.heap[C.w.heap.size]? =some (.cells arr T fr)) (hne:NE tg arr fr) (hr:RowC (R1 C.w C.ok) tg zs arr) {s':St}
  (hblk:∀i,s'.blk i=if i=n then .row tg zs false else if i=b then .gone else s.blk i) (hnp:s'.np=s.np) (hal:s'.al=s.al):
  ∃C',C'.w=w'/\Inv B s' C'/\Ext C C'/\(∀i,C'.used i↔C.used i\/i=n)/\∀cap,zs.length<=cap->cap*esz tg<=arr.size->TR C' (.vec n) (.slice (some ⟨C.w.heap.size,0,none⟩) zs.length cap):=by
 obtain⟨hI1,hE1⟩:=qy (b:=b) (s':={s with h:=(b,.gone)::s.h}) hI hb hmw (fun i=>lg s b _ i) rfl rfl
 have E:=li (lo:=some C.w.heap.size) (nb:= .row tg zs false) hI1 (w':=w') hw hn
 have hlt:C.w.heap.size<w'.heap.size:=(Array.getElem?_eq_some_iff.1 hat).1
 have hI2:=uI (nb:= .row tg zs false) (s':=s') (lo:=some C.w.heap.size) hI1 (w':=w') hw hn (.inr ⟨rfl,hlt⟩) (by
  simp only[BR,Cx.push,if_true]
  refine⟨arr,T,fr,hat,⟨hr.1,fun i x hx j a ha=>?_⟩,fun _=>hne⟩
  obtain⟨v,hv,hrr⟩:=hr.2 i x hx j a ha
  exact⟨v,hv,(hrr.ext hE1).ext E⟩) (fun i=>by rw[hblk,lg]) hnp hal
 refine⟨_,rfl,hI2,hE1.trans E,fun i=>Iff.rfl,fun cap h1 h2=>?_⟩
 refine⟨.inr rfl,⟨_,_,_,rfl⟩,?_⟩
 simp only[Cx.push,if_true]
 exact⟨cap,T,arr.size,rfl,h1,by show w'.shape? _=_;simp only[World.shape?,hat],h2⟩
theorem ins_ok {ρ:Ren}{Ly:Lay}(L:InsL P ρ):ov P Ly (ρ.f 22) z5:=by
 intro C args hs cargs hu hL hI hargs α k ans hr
 unfold z5 at hr hI|-
 dsimp only at hr hI|-
 split at hr
 ·rename_i i xs y f
  have hI:Inv (iK C 2 [(0,0,big)]) (qM [.row .page xs false,.row .page [y] f] 2 [(0,0,big)]) C:=hI
  obtain⟨l⟩:=cargs
  match l,hargs with
  |[v0,v1,v2],hargs=>
   obtain⟨hv0,hv1,hv2,_⟩:=hargs
   have hv1:v1= .int .i64 i:=hv1
   subst hv1
   cases hlim:wv xs i with
   |false=>rw[hlim]at hr;cases hr
   |true=>
    rw[hlim,ae rfl]at hr
    obtain⟨l1,l2,l3⟩:0<=i/\i<=xs.length/\(xs.length:Int)<lim:=of_decide_eq_true hlim
    unfold lim at l3
    obtain⟨p,rfl⟩:=Int.eq_ofNat_of_zero_le l1
    have hp:p<=xs.length:=by omega
    have hb0:(qM [.row .page xs false,.row .page [y] f] 2 [(0,0,big)]).blk 0= .row .page xs false:=by rw[eN];rfl
    have hb1:(qM [.row .page xs false,.row .page [y] f] 2 [(0,0,big)]).blk 1= .row .page [y] f:=by rw[eN];rfl
    have hmw:0<(iK C 2 [(0,0,big)]).np->∀o,gK (iK C 2 [(0,0,big)]) 0 o:=fun _ o=>⟨0,big,by simp[iK],.inl ⟨rfl,Nat.le_refl _⟩⟩
    have hn:¬C.used 2:=fun h=>by have:=(hu 2).1 h;simp at this
    have hO:Old (iK C 2 [(0,0,big)]) C:={keep:=fun i _=>BK.refl _ trivial,cell:=fun _ _ _ _ h=>h,ok:=fun _ h=>h}
    have hzs:uG xs (p:Int) y=xs.take p++([y]++xs.drop p):=by unfold uG;rw[Int.toNat_natCast];rfl
    have hzl:(uG xs (p:Int) y).length=xs.length+1:=by rw[hzs];simp;omega
    have hblk:∀j,(qM [.gone,.row .page [y] f,.row .page (uG xs (p:Int) y) false] 2 [(0,0,big)]).blk j=if j=2 then .row .page (uG xs (p:Int) y) false else if j=0 then .gone else(qM [.row .page xs false,.row .page [y] f] 2 [(0,0,big)]).blk j:=fun j=>by
     rw[eN,eN]
     match j with
     |0=>rfl
     |1=>rfl
     |2=>rfl
     |j+3=>rfl
    obtain⟨hub1,_,hv2⟩:=(hv2:VP C (.vec 1) v2)
    rw[hI.eqb,hb1]at hv2
    dsimp only at hv2
    have hbl1:BR C 1 (.row .page [y] f):=by have:=hI.bl 1;rwa [hb1]at this
    cases hc1:C.loc 1 with
    |none=>rw[hc1]at hv2;cases hv2.2
    |some c1=>
    rw[hc1]at hv2
    obtain⟨cap1,T1,n1,rfl,hcap1,hshp1,hcn1⟩:=hv2
    simp only[BR,hc1]at hbl1
    obtain⟨arr1,T1',fr1,hh1,⟨hra1,hrc1⟩,_⟩:=hbl1
    obtain⟨vs,nv,hvs⟩:=rH (C:=C) (c:=c1) (o:=0) (ys:=[y]) fun i x hx j a ha=>by
     obtain⟨v,hv,hr⟩:=hrc1 i x hx j a ha
     exact⟨v,by simp[World.cell?,hh1,hv],hr⟩
    have hvl:vs.length=3:=nv.1
    have hk1:n1≠0:=by
     simp only[World.shape?,hh1,Option.some.injEq,Prod.mk.injEq]at hshp1
     have:1*esz .page<=arr1.size:=hra1
     have e3:esz .page=3:=rfl
     omega
    obtain⟨i0,hi0,hz0,hzs0,hzb0⟩:=info_parts L.i9
    have hsrc:Src P i0.size (ρ.t 24) (.slice (some ⟨c1,0,none⟩) 1 cap1) 1 vs C.w:=by
     rw[hzs0]
     exact Src.ofSlice _ L.t24 _ _ _ _ hvl (fun j u hu=>by rw[Addr.add_mid];exact hvs j u hu) nv.one
    have key:∀ {w':World} {v:Value} {c cap:Nat},v= .slice (some ⟨c,0,none⟩) (uG xs (p:Int) y).length cap->(∃C':Cx,C'.w=w'/\Inv (iK C 2 [(0,0,big)]) (qM [.gone,.row .page [y] f,.row .page (uG xs (p:Int) y) false] 2 [(0,0,big)]) C'/\Ext C C'/\(∀i,C'.used i↔C.used i\/i=2)/\TR C' (.vec 2) (.slice (some ⟨c,0,none⟩) (uG xs (p:Int) y).length cap))->
      ∃x,Ending.returned v= .returned x/\∃r hs' C',k r hs'=some ans/\C'.w=w'/\Inv (iK C 2 [(0,0,big)]) (qM hs' 2 [(0,0,big)]) C'/\Old (iK C 2 [(0,0,big)]) C'/\(∀i,C'.used i->i<hs'.length)/\TR C' r x:=by
     rintro w' v c cap rfl ⟨C',h1,h2,h3,h4,h5⟩
     refine⟨_,rfl,.vec 2,_,C',hr,h1,h2,hO.ext hI h3,fun i hi=>?_,h5⟩
     rcases(h4 i).1 hi with h|rfl
     ·have:=(hu i).1 h;simp at this|-;omega
     ·simp
    have hf22:=L.f22
    refine iB hf22 rfl rfl ?_
    obtain⟨hub0,_,hv0⟩:=(hv0:VP C (.vec 0) v0)
    rw[hI.eqb,hb0]at hv0
    dsimp only at hv0
    have hbl0:BR C 0 (.row .page xs false):=by have:=hI.bl 0;rwa [hb0]at this
    have e3:esz .page=3:=rfl
    have hfitG:∀m cap,m<=549755813888->cap<m->Builtin.nextslicecap m cap*i0.bytes<=281474976710656:=fun m cap h1 h2=>by
     rw[hzb0]
     exact growslice_fits h2 (by omega)
    have rowG:∀(cs:List Value) (z:Array Value),ka (R1 C.w C.ok) .page xs cs->RowC (R1 C.w C.ok) .page (xs++[y]) ((cs++vs).toArray++z):=fun cs z h=>xn h nv z
    cases hc0:C.loc 0 with
    |none=>
     rw[hc0]at hv0
     obtain⟨rfl,rfl⟩:=hv0
     have hp0:p=0:=by simpa using hp
     subst hp0
     have hrun:=fun ty=>run_append_grow_src C.w (ρ.t 24) (ρ.t 24) ty (ρ.t 9) i0 _ L.t24 hi0 hz0 none 0 0 [] (run_firstCells_none ..) (.slice (some ⟨c1,0,none⟩) 1 cap1) 1 vs hsrc (by omega) (by omega) (hfitG _ _ (by omega) (by omega))
     refine(yB L none 0 0 c1 0 cap1 C.w (Nat.le_refl _) (by omega) (fun _=>⟨rfl,rfl⟩) hrun).mono ?_
     rintro e w' ⟨rfl,rfl⟩
     have hge:=grownCap_ge C.w (0+1) 0 (ρ.t 9)
     refine key (c:=C.w.heap.size) (cap:=grownCap C.w (0+1) 0 (ρ.t 9)) (by rw[hzl];rfl) ?_
     obtain⟨C',h1,h2,h3,h4,h5⟩:=se (tg:= .page) (n:=2) (zs:=uG [] ((0:Nat):Int) y) hI hb0 hmw hn (w':=C.w.drew.alloc _) ((m6 C.w).alloc (Nat.le_refl _) _) (jc C.w.drew _) (nS _ _) (rowG [] _ ⟨rfl,by simp⟩) hblk rfl rfl
     refine⟨C',h1,h2,h3,h4,h5 _ (by rw[hzl];exact hge) ?_⟩
     have:∀z:Array Value,z.size=3->(Builtin.zeroCells z (grownCap C.w (0+1) 0 (ρ.t 9)-(0+1))).size=(grownCap C.w (0+1) 0 (ρ.t 9)-(0+1))*3:=fun z h=>by simp[Builtin.zeroCells,h]
     rw[Array.size_append,this _ rfl,List.nil_append,List.size_toArray,hvl,e3]
     omega
    |some c=>
    rw[hc0]at hv0
    obtain⟨cap,T',n',rfl,hcap,hshp,hcn⟩:=hv0
    simp only[BR,hc0]at hbl0
    obtain⟨arr,T'',fr,hh,⟨hra,hrc⟩,hnf⟩:=hbl0
    have hne:=hnf trivial
    have hn':arr.size=n':=by
     simp only[World.shape?,hh,Option.some.injEq,Prod.mk.injEq]at hshp;exact hshp.2
    subst hn'
    obtain⟨cs,nc,hcs⟩:=rH (C:=C) (c:=c) (o:=0) (ys:=xs) fun i x hx j a ha=>by
     obtain⟨v,hv,hr⟩:=hrc i x hx j a ha
     exact⟨v,by simp[World.cell?,hh,hv],hr⟩
    have hcl:cs.length=xs.length*3:=nc.1
    rw[e3]at hcn hra
    have hcell:∀j,j<arr.size->(C.w.cell? ⟨c,j,none⟩).isSome=true:=fun j hj=>by simp[World.cell?,hh,hj]
    have hfz:∀j,j<arr.size->C.w.frozen? ⟨c,j,none⟩=false:=fun j hj=>by
     have:=hne.1 j hj
     simp only[World.frozen?,hh]
     simpa using this
    have hcv:c1≠c:=fun e=>by
     have:=hI.inj 1 0 c (by rw[hb1];simp) (by rw[hb0];simp) (by rw[hc1,e]) hc0
     omega
    have nz:ka (R1 C.w C.ok) .page (uG xs (p:Int) y) (cs.take (p*3)++(vs++cs.drop (p*3))):=by
     rw[hzs]
     exact wP (Bq nc hp) (wP nv (Bp nc p))
    have gz:∀z:Array Value,z.size=3->∀m,(Builtin.zeroCells z m).size=m*3:=fun z h m=>by simp[Builtin.zeroCells,h]
    by_cases hpe:p=xs.length
    ·subst hpe
     have hze:uG xs (xs.length:Int) y=xs++[y]:=by rw[hzs];simp
     by_cases hroom:xs.length+1<=cap
     ·have hrun:=fun ty=>run_append_room_src C.w (ρ.t 24) (ρ.t 24) ty (ρ.t 9) i0 L.t24 hi0 c 0 xs.length cap (.slice (some ⟨c1,0,none⟩) 1 cap1) 1 vs hsrc hroom (fun j hj=>hcell _ (by rw[hzs0];omega)) (fun j hj=>hfz _ (by rw[hzs0];omega))
      refine(yB L (some ⟨c,0,none⟩) xs.length cap c1 0 cap1 C.w hcap (by omega) (fun h=>by cases h) hrun).mono ?_
      rintro e w' ⟨rfl,rfl⟩
      rw[hzs0,Nat.zero_add]
      obtain⟨arr',g1,g2,g3,g4⟩:=cS vs (xs.length*3) C.w arr hh
      obtain⟨m1,m2,m3,m4⟩:=cU (c:=c) vs (xs.length*3) C.w
      refine key (by rw[hzl]) ?_
      obtain⟨C',h1,h2,h3,h4,h5⟩:=Ax (tg:= .page) (n:=2) (zs:=uG xs (xs.length:Int) y) hI hb0 hc0 hmw hn hh hne g1 g2 m1 ⟨m2,m3,m4⟩ (fun k hk=>dU hk _ _ _) (by rw[hzl];omega) (rG nz (by simp only[List.length_append,List.length_take,List.length_drop,hcl,hvl,g2];omega) (fun q v hq=>by
       rw[<-hcl,List.take_of_length_le (Nat.le_refl _),List.drop_of_length_le (Nat.le_refl _),List.append_nil]at hq
       by_cases hlt:q<cs.length
       ·rw[List.getElem?_append_left hlt]at hq
        rw[g3 q (.inl (by omega))]
        have:=hcs q v hq
        simpa[World.cell?,hh]using this
       ·rw[List.getElem?_append_right (by omega)]at hq
        have hlq:=(List.getElem?_eq_some_iff.1 hq).1
        have:=g4 (q-cs.length) (by omega) hlq
        rw[show xs.length*3+(q-cs.length)=q by omega]at this
        rw[this];exact hq)) hblk rfl rfl
      exact⟨C',h1,h2,h3,h4,h5 _ (by rw[hzl];exact hroom) (by rw[e3];exact hcn)⟩
     ·have hrun:=fun ty=>run_append_grow_src C.w (ρ.t 24) (ρ.t 24) ty (ρ.t 9) i0 _ L.t24 hi0 hz0 (some ⟨c,0,none⟩) xs.length cap cs (by rw[hzs0];exact run_firstCells_some C.w.drew _ _ _ _ _ _ hcl fun j v hv=>by rw[Addr.add_mid];exact hcs j v hv) (.slice (some ⟨c1,0,none⟩) 1 cap1) 1 vs hsrc (by omega) (by omega) (hfitG _ _ (by omega) (by omega))
      refine(yB L (some ⟨c,0,none⟩) xs.length cap c1 0 cap1 C.w hcap (by omega) (fun h=>by cases h) hrun).mono ?_
      rintro e w' ⟨rfl,rfl⟩
      have hge:=grownCap_ge C.w (xs.length+1) cap (ρ.t 9)
      refine key (by rw[hzl]) ?_
      obtain⟨C',h1,h2,h3,h4,h5⟩:=se (tg:= .page) (n:=2) (zs:=uG xs (xs.length:Int) y) hI hb0 hmw hn (w':=C.w.drew.alloc _) ((m6 C.w).alloc (Nat.le_refl _) _) (jc C.w.drew _) (nS _ _) (hze.symm▸rowG cs _ nc) hblk rfl rfl
      refine⟨C',h1,h2,h3,h4,h5 _ (by rw[hzl];exact hge) ?_⟩
      rw[Array.size_append,gz _ rfl,List.size_toArray,List.length_append,hvl,e3,hcl]
      omega
    ·by_cases hroom:xs.length+1<=cap
     ·have hcal:=Ds L c xs.length cap p c1 0 cap1 cs vs C.w (by omega) hroom (by omega) hcv hcl hvl (fun j v hv=>by have:=hcs j v hv;rwa [Nat.zero_add]at this) (fun j hj=>hcell j (by omega)) (fun j hj=>hfz j (by omega)) hvs nc.one nv.one T1 T' n1 arr.size hshp1 hshp hk1 (by
       have:=hne.2 rfl
       simp only[World.frozen?,hh]
       simpa using this)
      refine hcal.mono ?_
      rintro e w' ⟨rfl,rfl⟩
      obtain⟨arr',g1,g2,g3,g4⟩:=cS (cs.drop (p*3)) ((p+1)*3) C.w.drew arr hh
      obtain⟨m1,m2,m3,m4⟩:=cU (c:=c) (cs.drop (p*3)) ((p+1)*3) C.w.drew
      obtain⟨arr2,k1,k2,k3,k4⟩:=cS vs (p*3) _ arr' g1
      obtain⟨q1,q2,q3,q4⟩:=cU (c:=c) vs (p*3) (C.w.drew.setCells c ((p+1)*3) (cs.drop (p*3)))
      refine key (by rw[hzl]) ?_
      obtain⟨C',h1,h2,h3,h4,h5⟩:=Ax (tg:= .page) (n:=2) (zs:=uG xs (p:Int) y) hI hb0 hc0 hmw hn hh hne k1 (k2.trans g2) (q1.trans m1) ⟨q2.trans m2,q3.trans m3,q4.trans m4⟩ (fun k hk=>(dU hk _ _ _).trans (dU hk _ _ _)) (by rw[hzl];omega) (rG nz (by simp only[List.length_append,List.length_take,List.length_drop,hcl,hvl,k2,g2];omega) (fun q v hq=>by
       have hl1:(cs.take (p*3)).length=p*3:=by rw[List.length_take];omega
       by_cases hlt:q<p*3
       ·rw[List.getElem?_append_left (by omega),List.getElem?_take,if_pos hlt]at hq
        rw[k3 q (.inl hlt),g3 q (.inl (by omega))]
        have:=hcs q v hq
        simpa[World.cell?,hh]using this
       ·rw[List.getElem?_append_right (by omega),hl1]at hq
        by_cases hlt2:q-p*3<3
        ·rw[List.getElem?_append_left (by omega)]at hq
         have:=k4 (q-p*3) (by omega) (by omega)
         rw[show p*3+(q-p*3)=q by omega]at this
         rw[this];exact hq
        ·rw[List.getElem?_append_right (by omega),hvl]at hq
         have hlq:=(List.getElem?_eq_some_iff.1 hq).1
         rw[k3 q (.inr (by omega))]
         have:=g4 (q-p*3-3) (by rw[List.length_drop]at hlq;omega) hlq
         rw[show(p+1)*3+(q-p*3-3)=q by omega]at this
         rw[this];exact hq)) hblk rfl rfl
      exact⟨C',h1,h2,h3,h4,h5 _ (by rw[hzl];exact hroom) (by rw[e3];exact hcn)⟩
     ·refine(Gc L c xs.length cap p c1 0 cap1 cs vs C.w (by omega) hcap (by omega) (by omega) hcv hcl hvl (fun j v hv=>by have:=hcs j v hv;rwa [Nat.zero_add]at this) hvs nc.one nv.one).mono ?_
      rintro e w' ⟨rfl,rfl⟩
      have hge:=grownCap_ge C.w (xs.length+1) cap (ρ.t 9)
      obtain⟨ROW,hROW⟩:∃ROW:Array Value,ROW=(cs.take (p*3)).toArray++Builtin.zeroCells #[.int .i64 0,.int .i64 0,.string ⟨#[]⟩] (xs.length+1-p)++Builtin.zeroCells #[.int .i64 0,.int .i64 0,.string ⟨#[]⟩] (grownCap C.w (xs.length+1) cap (ρ.t 9)-(xs.length+1)):=⟨_,rfl⟩
      have hl1:(cs.take (p*3)).length=p*3:=by rw[List.length_take];omega
      have hRs:ROW.size=grownCap C.w (xs.length+1) cap (ρ.t 9)*3:=by
       rw[hROW,Array.size_append,Array.size_append,gz _ rfl,gz _ rfl,List.size_toArray,hl1]
       omega
      have hR1:∀q,q<p*3->ROW[q]? =cs[q]? :=fun q hq=>by
       rw[hROW,Array.append_assoc,Array.getElem?_append_left (by simpa[hl1]using hq),List.getElem?_toArray,List.getElem?_take,if_pos hq]
      rw[<-hROW]
      obtain⟨arr',g1,g2,g3,g4⟩:=cS vs (p*3) (C.w.alloc (.cells ROW (ρ.t 9))).drew ROW (c:=C.w.heap.size) (T:=ρ.t 9) (fr:=(0,0)) (jc C.w _)
      obtain⟨m1,m2,m3,m4⟩:=cU (c:=C.w.heap.size) vs (p*3) (C.w.alloc (.cells ROW (ρ.t 9))).drew
      obtain⟨W1,hW1⟩:∃W1,W1=((C.w.alloc (.cells ROW (ρ.t 9))).drew.setCells C.w.heap.size (p*3) vs).drew:=⟨_,rfl⟩
      have hb1:Below C.w.heap.size C.w W1:=by
       rw[hW1]
       exact⟨m2,m3,m4,by show C.w.heap.size<=(World.setCells _ _ _ _).heap.size;rw[m1];exact((gy C.w (.cells ROW (ρ.t 9) (0,0))).drew).size,fun k hk=>(dU (by omega) _ _ _).trans ((gy C.w (.cells ROW (ρ.t 9) (0,0))).block k hk)⟩
      rw[<-hW1]
      have g1':W1.heap[C.w.heap.size]? =some (.cells arr' (ρ.t 9) (0,0)):=by rw[hW1];exact g1
      obtain⟨arr2,k1,k2,k3,k4⟩:=cS (cs.drop (p*3)) ((p+1)*3) W1 arr' g1'
      obtain⟨q1,q2,q3,q4⟩:=cU (c:=C.w.heap.size) (cs.drop (p*3)) ((p+1)*3) W1
      refine key (by rw[hzl]) ?_
      obtain⟨C',h1,h2,h3,h4,h5⟩:=se (tg:= .page) (n:=2) (zs:=uG xs (p:Int) y) hI hb0 hmw hn (w':=W1.setCells C.w.heap.size ((p+1)*3) (cs.drop (p*3))) ⟨q2.trans hb1.os,q3.trans hb1.tape,q4.trans hb1.output,by rw[q1];exact hb1.size,fun k hk=>(dU (by omega) _ _ _).trans (hb1.block k hk)⟩ k1 (nS _ _) (rG nz (by simp only[List.length_append,List.length_take,List.length_drop,hcl,hvl,k2,g2,hRs];omega) (fun q v hq=>by
       by_cases hlt:q<p*3
       ·rw[List.getElem?_append_left (by omega),List.getElem?_take,if_pos hlt]at hq
        rw[k3 q (.inl (by omega)),g3 q (.inl hlt),hR1 q hlt];exact hq
       ·rw[List.getElem?_append_right (by omega),hl1]at hq
        by_cases hlt2:q-p*3<3
        ·rw[List.getElem?_append_left (by omega)]at hq
         have:=g4 (q-p*3) (by omega) (by omega)
         rw[show p*3+(q-p*3)=q by omega]at this
         rw[k3 q (.inl (by omega)),this];exact hq
        ·rw[List.getElem?_append_right (by omega),hvl]at hq
         have hlq:=(List.getElem?_eq_some_iff.1 hq).1
         have:=k4 (q-p*3-3) (by rw[List.length_drop]at hlq;omega) hlq
         rw[show(p+1)*3+(q-p*3-3)=q by omega]at this
         rw[this];exact hq)) hblk rfl rfl
      exact⟨C',h1,h2,h3,h4,h5 _ (by rw[hzl];exact hge) (by rw[e3,k2,g2,hRs];exact Nat.le_refl _)⟩
  |[],hargs=>exact hargs.elim
  |[_],hargs=>exact hargs.2.elim
  |[_,_],hargs=>exact hargs.2.2.elim
  |_::_::_::_::_,hargs=>exact hargs.2.2.2.elim
 ·cases hr
end
end Go.Den
