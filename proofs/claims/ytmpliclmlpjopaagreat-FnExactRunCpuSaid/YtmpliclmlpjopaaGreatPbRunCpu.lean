/- Theory for the proofs of this claim: see its last text. -/
import Derived.Test.YtmpliclmlpjopaaGreatFnRunCpu
import Derived.Test.YtmpliclmlpjopaaGreatDenF
import Derived.KernelRfl
import Derived.Laws.MathBits
import Derived.Test.YtmpliclmlpjopaaGreatPaRunCpu
namespace Go.Den.G
open Go.Den
set_option maxRecDepth 100000
theorem sh {h l d:Int}:
  dY ((h,l,d,()),())=some (if uns d≤uns h then((0,0,16,()),())else((IntKind.wrap .i64 (((uns h*18446744073709551616+uns l)/uns d:Nat):Int),IntKind.wrap .i64 (((uns h*18446744073709551616+uns l)%uns d:Nat):Int),0,()),())):=by
 unfold dY db
 dsimp only
 rw[aa,dU,dU,dU]
 dsimp only
 by_cases hc:uns d≤uns h
 ·rw[gF (by omega),cP,aH,if_pos hc]
 ·rw[ii (by omega),ce,aj,Dq (by omega) (dV d) (dV l),aa,if_neg hc]
  rfl
theorem CX {n:Nat}(hn:b8 (n:Int)=true)(d:Int):sx (8*n-1) (bO d n)=sx (8*n-1) d:=by
 have h18:=dq hn
 unfold bO
 by_cases h8:n=8
 ·rw[if_pos h8]
 ·rw[if_neg h8]
  have h3:n=1∨n=2∨n=4:=by rcases vT hn with h|h|h|h<;>omega
  unfold sx
  rcases h3 with rfl|rfl|rfl
  ·rw[show(2:Int)^(8*1-1+1)=256 from rfl,show(2:Int)^(8*1-1)=128 from rfl,show(2:Int)^64=18446744073709551616 from rfl]
   split<;>split<;>omega
  ·rw[show(2:Int)^(8*2-1+1)=65536 from rfl,show(2:Int)^(8*2-1)=32768 from rfl,show(2:Int)^64=18446744073709551616 from rfl]
   split<;>split<;>omega
  ·rw[show(2:Int)^(8*4-1+1)=4294967296 from rfl,show(2:Int)^(8*4-1)=2147483648 from rfl,show(2:Int)^64=18446744073709551616 from rfl]
   split<;>split<;>omega
def t9 (M B:Nat):Bool:=decide (B*18446744073709551616≤M)
def uc (t:Bool)(n q:Nat):Bool:=if t=true then decide (2^(8*n-1)<q)else decide (2^(8*n-1)≤q)
def Ae (X D:Int):Bool:=decide (X<0) != decide (D<0)
def negI (t:Bool)(q:Nat):Int:=if t=true then -(q:Int)else(q:Int)
def FR (sg:Bool)(n:Nat)(X D:Int)(q r:Nat):Int×Int×Bool:=
 if t9 X.natAbs D.natAbs=true then(0,0,false)
 else if sg=false then(ki n (q:Int),ki n (r:Int),decide (q<2^(8*n)))
 else if uc (Ae X D) n q=true then(0,0,false)
 else(ki n (negI (Ae X D) q),ki n (negI (decide (X<0)) r),true)
def su (op:Int)(n:Nat)(hi lo d:Int):Int×Int×Bool:=
 FR (decide (op=16)) n (ne (decide (op=16)) n hi lo) (mn (decide (op=16)) n d) ((ne (decide (op=16)) n hi lo).natAbs/(mn (decide (op=16)) n d).natAbs) ((ne (decide (op=16)) n hi lo).natAbs%(mn (decide (op=16)) n d).natAbs)
theorem pj {n:Nat}(hn:b8 (n:Int)=true)(z:Int):bO (IntKind.wrap .i64 z) n=ki n z:=by
 refine oh hn (ar _) ?_
 rw[bP,bi,Int.emod_emod_of_dvd z (by have:=AQ (dq hn).2;exact this)]
theorem kF {a b:Int}(h:a%18446744073709551616=b%18446744073709551616):IntKind.wrap .i64 a=IntKind.wrap .i64 b:=by
 simp only[IntKind.wrap,IntKind.bits,show(2:Int)^64=18446744073709551616 from rfl,h]
theorem lU (x:Int):IntKind.wrap .i64 x%18446744073709551616=x%18446744073709551616:=by
 have:=bP x
 have h1:=bi (IntKind.wrap .i64 x)
 have h2:=bi x
 rw[this]at h1
 rw[show(2:Int)^64=18446744073709551616 from rfl]at h1 h2
 omega
theorem yw (z:Int):aV .i64 0 (IntKind.wrap .i64 z)=IntKind.wrap .i64 (-z):=by
 unfold aV
 refine kF ?_
 have:=lU z
 omega
theorem AJ {sg:Bool}{n:Nat}(hn:b8 (n:Int)=true)(hi lo:Int): -170141183460469231731687303715884105728≤ne sg n hi lo∧ne sg n hi lo<340282366920938463463374607431768211456∧(sg=false→0≤ne sg n hi lo):=by
 have hlt:=ka n hi lo
 unfold ne
 generalize mG n hi lo=N at*
 rcases vT hn with rfl|rfl|rfl|rfl
 ·rw[show(2:Nat)^(16*1)=65536 from rfl]at hlt
  rw[show(2:Nat)^(16*1-1)=32768 from rfl,show(2:Int)^(16*1)=65536 from rfl]
  split
  ·rename_i h;exact⟨by omega,by omega,fun g=>by rw[g]at h;cases h.1⟩
  ·omega
 ·rw[show(2:Nat)^(16*2)=4294967296 from rfl]at hlt
  rw[show(2:Nat)^(16*2-1)=2147483648 from rfl,show(2:Int)^(16*2)=4294967296 from rfl]
  split
  ·rename_i h;exact⟨by omega,by omega,fun g=>by rw[g]at h;cases h.1⟩
  ·omega
 ·rw[show(2:Nat)^(16*4)=18446744073709551616 from rfl]at hlt
  rw[show(2:Nat)^(16*4-1)=9223372036854775808 from rfl,show(2:Int)^(16*4)=18446744073709551616 from rfl]
  split
  ·rename_i h;exact⟨by omega,by omega,fun g=>by rw[g]at h;cases h.1⟩
  ·omega
 ·rw[show(2:Nat)^(16*8)=340282366920938463463374607431768211456 from rfl]at hlt
  rw[show(2:Nat)^(16*8-1)=170141183460469231731687303715884105728 from rfl,show(2:Int)^(16*8)=340282366920938463463374607431768211456 from rfl]
  split
  ·rename_i h;exact⟨by omega,by omega,fun g=>by rw[g]at h;cases h.1⟩
  ·omega
set_option maxRecDepth 100000
theorem BC {n:Nat}(hn:b8 (n:Int)=true):uns (dg .i64 1 (8*(n:Int)-1))=2^(8*n-1):=by
 rcases vT hn with rfl|rfl|rfl|rfl<;>decide +kernel
theorem tR (a b:Int):db ((a,b,()),())=some (decide (uns a<uns b),()):=by
 unfold db
 dsimp only
 rw[dU,dU]
 unfold ltI
 simp only[Int.ofNat_lt]
theorem DP {n:Nat}(hn:b8 (n:Int)=true){q:Nat}(hq:q<18446744073709551616):eqI (ki n (q:Int)) (IntKind.wrap .i64 (q:Int))=decide (q<2^(8*n)):=by
 unfold eqI
 have h1:=vM n (dq hn).2 (q:Int)
 have h2:uns (IntKind.wrap .i64 (q:Int))=q:=by rw[bP,eB hq]
 have h3:((q:Int)%2^(8*n)).toNat=q%2^(8*n):=by
  rw[←jF,←Int.natCast_emod,Int.toNat_natCast]
 rw[h3]at h1
 by_cases h:q<2^(8*n)
 ·rw[decide_eq_true h]
  refine decide_eq_true (iV (iO ..) (ar _) ?_)
  rw[h1,h2,Nat.mod_eq_of_lt h]
 ·rw[decide_eq_false h]
  refine decide_eq_false (fun he=>?_)
  rw[he,h2]at h1
  have:=Nat.mod_lt q (Nat.two_pow_pos (8*n))
  omega
theorem AK {op hi lo d:Int}{n:Nat}(hn:b8 (n:Int)=true)(hh:I64 hi)(hl:I64 lo)(hd:I64 d):
  fD ((op,(n:Int),hi,lo,d,()),())=some (((su op n hi lo d).1,(su op n hi lo d).2.1,(su op n hi lo d).2.2,()),()):=by
 obtain⟨h1,h8⟩:=dq hn
 unfold fD
 dsimp only
 obtain⟨sg,hsg⟩:∃sg:Bool,sg=decide (op=16):=⟨_,rfl⟩
 have heq:eqI op 16=sg:=by rw[hsg];rfl
 rw[heq]
 obtain⟨h,l,e1,hI,lI,hX,hlt⟩:=Bg hn hh hl sg
 rw[e1,aa,bG _ n hn,aa]
 dsimp only
 have hxb:=AJ (sg:=sg) hn hi lo
 unfold su
 rw[←hsg]
 obtain⟨X,hXe⟩:∃X,X=ne sg n hi lo:=⟨_,rfl⟩
 obtain⟨D,hDe⟩:∃D,D=mn sg n d:=⟨_,rfl⟩
 have hDb:=FU sg hn d
 rw[←hXe]at hX hlt hxb
 rw[←hDe]at hDb
 rw[←hXe,←hDe]
 obtain⟨q,hq⟩:∃q,q=X.natAbs/D.natAbs:=⟨_,rfl⟩
 obtain⟨r,hr⟩:∃r,r=X.natAbs%D.natAbs:=⟨_,rfl⟩
 rw[←hq,←hr]
 obtain⟨D1,hD1⟩:∃D1,D1=if sg=true then D else bO d n:=⟨_,rfl⟩
 refine(Ret.bnd (Q:=fun y=>y=Sum.inl (((n:Int),h,l,D1,sg,()),())) ?_ ?_).eq
 ·cases sg with
  |true=>
   rw[aH,lL _ _ (by omega) (by omega),aa,show(8*(n:Int)-1).toNat=8*n-1 by omega,CX hn,hD1,if_pos rfl,hDe]
   exact Ret.some rfl
  |false=>
   rw[aj,hD1,if_neg (by decide)]
   exact Ret.some rfl
 rintro _ rfl
 rw[ag]
 dsimp only
 have hbel:br sg (some (ltI h 0)) (some false)=some (decide (X<0)):=by
  cases sg with
  |true=>rw[aH];unfold ltI;simp only[hlt rfl]
  |false=>rw[aj,decide_eq_false (show ¬X<0 by have:=hxb.2.2 rfl;omega)]
 rw[hbel,aa]
 refine Ret.bnd (Q:=fun y=>∃h' l',I64 h'∧I64 l'∧uns h'*18446744073709551616+uns l'=X.natAbs∧y=Sum.inl (((n:Int),h',l',D1,sg,decide (X<0),false,()),())) ?_ ?_
 ·by_cases hx:X<0
  ·rw[decide_eq_true hx,aH]
   obtain⟨h',l',e2,hI',lI',hO⟩:=wY (h:=h) (l:=l)
   rw[e2,aa]
   refine Ret.some ⟨h',l',hI',lI',?_,rfl⟩
   rw[hX,if_pos hx]at hO
   omega
  ·rw[decide_eq_false hx,aj]
   refine Ret.some ⟨h,l,hI,lI,?_,rfl⟩
   rw[if_neg hx]at hX
   omega
 rintro _ ⟨h',l',hI',lI',hM,rfl⟩
 rw[ag]
 dsimp only
 have htur:br sg (some (ltI D1 0)) (some false)=some (decide (D<0)):=by
  cases sg with
  |true=>rw[aH,hD1,if_pos rfl];rfl
  |false=>rw[aj,decide_eq_false (show ¬D<0 by have:=hDb.2.2.2 rfl;omega)]
 rw[htur,aa]
 refine Ret.bnd (Q:=fun y=>∃d',uns d'=D.natAbs∧y=Sum.inl (((n:Int),h',l',d',sg,decide (X<0),decide (D<0),()),())) ?_ ?_
 ·have hb63:sg=true→ -9223372036854775808≤D∧D<9223372036854775808:=fun g=>by
   have h5:(2:Nat)^(8*n-1)≤2^63:=Nat.pow_le_pow_right (by decide) (by omega)
   have h6:(2:Int)^(8*n-1)≤9223372036854775808:=by
    have:=jF (8*n-1)
    rw[←this];exact Int.ofNat_le.2 h5
   have:=hDb.1
   have:=hDb.2.2.1 g
   omega
  by_cases hx:D<0
  ·have hs:sg=true:=by
    cases sg with
    |true=>rfl
    |false=>have:=hDb.2.2.2 rfl;omega
   subst hs
   rw[decide_eq_true hx,aH,hD1,if_pos rfl]
   refine Ret.some ⟨aV .i64 0 D,?_,rfl⟩
   have hb:=hb63 rfl
   unfold aV
   rw[bP,show 0-D=((D.natAbs:Nat):Int)by omega,eB (by omega)]
  ·rw[decide_eq_false hx,aj]
   refine Ret.some ⟨D1,?_,rfl⟩
   cases sg with
   |true=>
    rw[hD1,if_pos rfl]
    have hb:=hb63 rfl
    obtain⟨k,hk⟩:∃k:Nat,D=k:=⟨D.natAbs,by omega⟩
    rw[hk,eB (by omega),Int.natAbs_natCast]
   |false=>
    rw[hD1,if_neg (by decide),cg hd hn,hDe]
    unfold mn
    rw[if_neg (by decide),Int.natAbs_natCast]
 rintro _ ⟨d',hd',rfl⟩
 rw[ag]
 dsimp only[p5,p6]
 rw[sh,aa,hM,hd']
 have hl64:=dV l'
 by_cases hov:D.natAbs≤uns h'
 ·have hb:t9 X.natAbs D.natAbs=true:=decide_eq_true (by omega)
  unfold FR
  rw[if_pos hov,if_pos hb]
  exact Ret.some rfl
 have hb:¬t9 X.natAbs D.natAbs=true:=fun g=>by
  have:=of_decide_eq_true g
  omega
 rw[if_neg hov]
 dsimp only
 have hq64:q<18446744073709551616:=by rw[hq];exact Nat.div_lt_of_lt_mul (by omega)
 rw[←hq,←hr,show aX (eqI 0 0)=false from rfl,aj]
 clear hov hXe hDe hq hr hM hd' hxb hDb hbel htur hD1
 cases sg with
 |false=>
  rw[show aX false=true from rfl,aH,bG _ n hn,bG _ n hn,aa,aa,aa]
  dsimp only
  rw[pj hn,pj hn,DP hn hq64]
  unfold FR
  rw[if_neg hb,if_pos rfl]
  exact Ret.some rfl
 |true=>
  rw[show aX true=false from rfl,aj]
  rw[eu (a:=8) (by omega) (by omega),ck (by omega) (by omega),af (eY (by omega)),tR,tR,aa,aa,BC hn,bP,eB hq64]
  have hnB:∀a b:Bool,aX (eqB a b)=(a != b):=fun a b=>by cases a<;>cases b<;>rfl
  rw[hnB,show(decide (X<0) != decide (D<0))=Ae X D from rfl]
  dsimp only
  unfold FR
  rw[if_neg hb,if_neg (show ¬true=false by decide)]
  obtain⟨t,ht⟩:∃t:Bool,t=Ae X D:=⟨_,rfl⟩
  rw[←ht]
  by_cases hf:uc t n q=true
  ·rw[if_pos hf]
   refine Ret.bnd (Q:=fun y=>y=Sum.inr ((0,0,false,()),())) ?_ ?_
   ·cases t with
    |true=>
     have hf':2^(8*n-1)<q:=of_decide_eq_true hf
     rw[aH,decide_eq_true hf',aH]
     exact Ret.some rfl
    |false=>
     have hf':2^(8*n-1)≤q:=of_decide_eq_true hf
     rw[aj,decide_eq_false (by omega),show aX false=true from rfl,aH]
     exact Ret.some rfl
   ·rintro _ rfl
    rw[oQ]
    exact Ret.some rfl
  ·rw[if_neg hf]
   refine Ret.bnd (Q:=fun y=>y=Sum.inl (((n:Int),decide (X<0),IntKind.wrap .i64 (negI t q),IntKind.wrap .i64 (r:Int),()),())) ?_ ?_
   ·cases t with
    |true=>
     have hf':¬2^(8*n-1)<q:=fun g=>hf (decide_eq_true g)
     rw[aH,decide_eq_false hf',aj,yw]
     exact Ret.some rfl
    |false=>
     have hf':¬2^(8*n-1)≤q:=fun g=>hf (decide_eq_true g)
     rw[aj,decide_eq_true (by omega),show aX true=false from rfl,aj]
     exact Ret.some rfl
   rintro _ rfl
   rw[ag]
   dsimp only
   refine Ret.bnd (Q:=fun y=>y=Sum.inl (((n:Int),IntKind.wrap .i64 (negI t q),IntKind.wrap .i64 (negI (decide (X<0)) r),()),())) ?_ ?_
   ·cases decide (X<0)with
    |true=>
     rw[aH,yw]
     exact Ret.some rfl
    |false=>
     rw[aj]
     exact Ret.some rfl
   rintro _ rfl
   rw[ag]
   dsimp only
   rw[bG _ n hn,bG _ n hn,aa,aa]
   dsimp only
   rw[pj hn,pj hn]
   exact Ret.some rfl
theorem xV {op hi lo d:Int}{n:Nat}:I64 (su op n hi lo d).1∧I64 (su op n hi lo d).2.1:=by
 have z:I64 0:=by unfold I64;omega
 unfold su FR
 split
 ·exact⟨z,z⟩
 split
 ·exact⟨iO ..,iO ..⟩
 split
 ·exact⟨z,z⟩
 ·exact⟨iO ..,iO ..⟩
structure AddInv (A B c0 i out c:Nat):Prop where
 lo:out<2^i
 hc:c≤1
 e:out+2^i*c=A%2^i+B%2^i+c0
structure SubInv (A B c0 i out c:Nat):Prop where
 lo:out<2^i
 hc:c≤1
 e:out+B%2^i+c0=A%2^i+2^i*c
theorem AddInv.init {A B c0:Nat}(h:c0≤1):AddInv A B c0 0 0 c0:=⟨by decide,h,by omega⟩
theorem SubInv.init {A B c0:Nat}(h:c0≤1):SubInv A B c0 0 0 c0:=⟨by decide,h,by omega⟩
theorem oT (A i:Nat):A/2^i%2=0∨A/2^i%2=1:=by omega
theorem AddInv.step {A B c0 i out c:Nat}(h:AddInv A B c0 i out c):
  AddInv A B c0 (i+1) (out+2^i*((A/2^i%2+B/2^i%2+c)%2)) ((A/2^i%2+B/2^i%2+c)/2):=by
 obtain⟨h1,h2,h3⟩:=h
 have hp:=Nat.two_pow_pos i
 have hx:=oT A i
 have hy:=oT B i
 have hc:c=0∨c=1:=by omega
 refine⟨?_,?_,?_⟩
 ·rw[Nat.pow_succ]
  rcases hx with hx|hx<;>rcases hy with hy|hy<;>rcases hc with hc|hc<;>rw[hx,hy,hc]<;>simp only[Nat.reduceAdd,Nat.reduceMod,Nat.mul_zero,Nat.mul_one]<;>omega
 ·omega
 ·rw[Nat.mod_pow_succ,Nat.mod_pow_succ,Nat.pow_succ]
  generalize A%2^i=a at*
  generalize B%2^i=b at*
  rcases hx with hx|hx<;>rcases hy with hy|hy<;>rcases hc with hc|hc<;>rw[hc]at h3<;>rw[hx,hy,hc]<;>simp only[Nat.reduceAdd,Nat.reduceMod,Nat.reduceDiv,Nat.mul_zero,Nat.mul_one]at* <;>omega
theorem SubInv.step {A B c0 i out c:Nat}(h:SubInv A B c0 i out c):
  SubInv A B c0 (i+1) (out+2^i*((A/2^i%2+2-B/2^i%2-c)%2)) (if A/2^i%2+2-B/2^i%2-c<2 then 1 else 0):=by
 obtain⟨h1,h2,h3⟩:=h
 have hp:=Nat.two_pow_pos i
 have hx:=oT A i
 have hy:=oT B i
 have hc:c=0∨c=1:=by omega
 refine⟨?_,?_,?_⟩
 ·rw[Nat.pow_succ]
  rcases hx with hx|hx<;>rcases hy with hy|hy<;>rcases hc with hc|hc<;>rw[hx,hy,hc]<;>simp only[Nat.reduceAdd,Nat.reduceSub,Nat.reduceMod,Nat.mul_zero,Nat.mul_one]<;>omega
 ·split<;>omega
 ·rw[Nat.mod_pow_succ,Nat.mod_pow_succ,Nat.pow_succ]
  generalize A%2^i=a at*
  generalize B%2^i=b at*
  rcases hx with hx|hx<;>rcases hy with hy|hy<;>rcases hc with hc|hc<;>rw[hc]at h3<;>rw[hx,hy,hc]<;>simp only[Nat.reduceAdd,Nat.reduceSub,Nat.reduceMod,Nat.mul_zero,Nat.mul_one,Nat.reduceLT,if_true,if_false]at* <;>omega
theorem AddInv.fin {A B c0 i out c:Nat}(h:AddInv A B c0 i out c):out=(A%2^i+B%2^i+c0)%2^i∧c=(A%2^i+B%2^i+c0)/2^i:=by
 obtain⟨h1,h2,h3⟩:=h
 rw[←h3]
 constructor
 ·rw[Nat.add_mul_mod_self_left,Nat.mod_eq_of_lt h1]
 ·rw[Nat.add_mul_div_left _ _ (Nat.two_pow_pos i),Nat.div_eq_of_lt h1,Nat.zero_add]
theorem SubInv.fin {A B c0 i out c:Nat}(h:SubInv A B c0 i out c):out%2^i=(A%2^i+2^i-B%2^i-c0)%2^i∧c=(if A%2^i<B%2^i+c0 then 1 else 0):=by
 obtain⟨h1,h2,h3⟩:=h
 have hp:=Nat.two_pow_pos i
 have hA:=Nat.mod_lt A hp
 have hB:=Nat.mod_lt B hp
 generalize A%2^i=a at*
 generalize B%2^i=b at*
 generalize 2^i=P at*
 have hc:c=0∨c=1:=by omega
 rcases hc with rfl|rfl
 ·rw[Nat.mul_zero]at h3
  constructor
  ·rw[show a+P-b-c0=out+P by omega,Nat.add_mod_right]
  ·rw[if_neg (by omega)]
 ·rw[Nat.mul_one]at h3
  constructor
  ·rw[show a+P-b-c0=out by omega]
  ·rw[if_pos (by omega)]
structure WideInv (a b k:Nat)(h l:Int):Prop where
 h0:0≤h
 l0:0≤l
 hl:l<18446744073709551616
 e:h*18446744073709551616+l=((a*(b/2^k):Nat):Int)
theorem WideInv.init {a b:Nat}(hb:b<18446744073709551616):WideInv a b 64 0 0:=⟨by omega,by omega,by omega,by rw[Nat.div_eq_of_lt hb];rfl⟩
theorem um (b k:Nat):b/2^k=2*(b/2^(k+1))+b/2^k%2:=by
 rw[Nat.pow_succ,←Nat.div_div_eq_div_mul]
 omega
theorem Gq (a b k:Nat):a*(b/2^k)=2*(a*(b/2^(k+1)))+a*(b/2^k%2):=by
 have h4:a*(b/2^k)=a*(2*(b/2^(k+1))+b/2^k%2):=congrArg _ (um b k)
 rw[h4,Nat.mul_add,Nat.mul_left_comm]
theorem Dc {a b:Nat}(k:Nat)(ha:a<18446744073709551616)(hb:b<18446744073709551616):((a*(b/2^k):Nat):Int)<340282366920938463463374607431768211456:=by
 have:a*(b/2^k)<18446744073709551616*18446744073709551616:=Nat.mul_lt_mul'' ha (Nat.lt_of_le_of_lt (Nat.div_le_self _ _) hb)
 exact Int.ofNat_lt.2 this
theorem wide0I {h l p p1:Int}(l0:0≤l)(h0:0≤h)(h2:h*18446744073709551616+l=p1)(e:p=2*p1+0)(h1:l<18446744073709551616)(hq:p<340282366920938463463374607431768211456):
  (h*2+l/9223372036854775808)%18446744073709551616*18446744073709551616+l*2%18446744073709551616=p:=by omega
theorem wide1I {h l a p p1 l' h':Int}(l0:0≤l)(h0:0≤h)(a0:0≤a)(h2:h*18446744073709551616+l=p1)(e:p=2*p1+a)(h1:l<18446744073709551616)(ha:a<18446744073709551616)(hq:p<340282366920938463463374607431768211456)
  (e1:h'=(h*2+l/9223372036854775808)%18446744073709551616) (e2:l'=l*2%18446744073709551616):
  ((l'+a)%18446744073709551616<l'→(h'+1)%18446744073709551616*18446744073709551616+(l'+a)%18446744073709551616=p)∧(¬(l'+a)%18446744073709551616<l'→h'*18446744073709551616+(l'+a)%18446744073709551616=p):=by constructor<;>intro g<;>omega
theorem WideInv.step0 {a b k:Nat}{h l:Int}(ha:a<18446744073709551616)(hb:b<18446744073709551616)(H:WideInv a b (k+1) h l)(h0:b/2^k%2=0):
  WideInv a b k ((h*2+l/9223372036854775808)%18446744073709551616) (l*2%18446744073709551616):=by
 obtain⟨h1,h3,h4,h2⟩:=H
 have hq:=Dc k ha hb
 have e:=Gq a b k
 rw[h0,Nat.mul_zero]at e
 exact⟨by omega,by omega,by omega,wide0I h3 h1 h2 (by omega) h4 hq⟩
theorem WideInv.step1 {a b k:Nat}{h l h' l':Int}(ha:a<18446744073709551616)(hb:b<18446744073709551616)(H:WideInv a b (k+1) h l)(h0:b/2^k%2=1)
  (e1:h'=(h*2+l/9223372036854775808)%18446744073709551616) (e2:l'=l*2%18446744073709551616):
  ((l'+a)%18446744073709551616<l'→WideInv a b k ((h'+1)%18446744073709551616) ((l'+a)%18446744073709551616))∧(¬(l'+a)%18446744073709551616<l'→WideInv a b k h' ((l'+a)%18446744073709551616)):=by
 obtain⟨h1,h3,h4,h2⟩:=H
 have hq:=Dc k ha hb
 have e:=Gq a b k
 rw[h0,Nat.mul_one]at e
 have:=wide1I (h:=h) (l:=l) (a:=a) h3 h1 (by omega) h2 (by omega) h4 (by omega) hq e1 e2
 exact⟨fun g=>⟨by omega,by omega,by omega,this.1 g⟩,fun g=>⟨by omega,by omega,by omega,this.2 g⟩⟩
theorem WideInv.fin {a b:Nat}{h l:Int}(H:WideInv a b 0 h l):h=((a*b/18446744073709551616:Nat):Int)∧l=((a*b%18446744073709551616:Nat):Int):=by
 obtain⟨h1,h3,h4,h2⟩:=H
 rw[Nat.pow_zero,Nat.div_one]at h2
 rw[Int.natCast_ediv,Int.natCast_emod]
 obtain⟨p,hp⟩:∃p,p=a*b:=⟨_,rfl⟩
 rw[←hp]at h2⊢
 omega
structure QuoInv (hi lo d k q r:Nat):Prop where
 lt:r<d
 e:hi*2^(64-k)+lo/2^k=q*d+r
theorem QuoInv.init {hi lo d:Nat}(h:hi<d)(hl:lo<18446744073709551616):QuoInv hi lo d 64 0 hi:=⟨h,by rw[Nat.div_eq_of_lt hl];simp⟩
theorem QuoInv.step {hi lo d k q r:Nat}(hk:k<64)(H:QuoInv hi lo d (k+1) q r):
  (r*2+lo/2^k%2<d→QuoInv hi lo d k (q*2) (r*2+lo/2^k%2))∧(d≤r*2+lo/2^k%2→QuoInv hi lo d k (q*2+1) (r*2+lo/2^k%2-d)):=by
 obtain⟨h1,h2⟩:=H
 have hs:=um lo k
 have e1:hi*2^(64-k)=2*(hi*2^(64-(k+1))):=by
  rw[show 64-k=64-(k+1)+1 by omega,Nat.pow_succ]
  generalize 2^(64-(k+1))=P
  rw[←Nat.mul_assoc,Nat.mul_comm]
 have e2:hi*2^(64-k)+lo/2^k=q*2*d+(r*2+lo/2^k%2):=by
  rw[Nat.mul_right_comm,e1]
  generalize hi*2^(64-(k+1))=p at*
  generalize q*d=s at*
  omega
 refine⟨fun h=>⟨h,e2⟩,fun h=>⟨by omega,?_⟩⟩
 rw[e2,Nat.add_mul,Nat.one_mul]
 generalize q*2*d=s at*
 omega
theorem QuoInv.fin {hi lo d q r:Nat}(H:QuoInv hi lo d 0 q r):q=(hi*18446744073709551616+lo)/d∧r=(hi*18446744073709551616+lo)%d:=by
 obtain⟨h1,h2⟩:=H
 have e:hi*18446744073709551616+lo=r+d*q:=by
  rw[Nat.mul_comm d q,Nat.add_comm r,←h2]
  simp
 rw[e]
 constructor
 ·rw[Nat.add_mul_div_left _ _ (by omega),Nat.div_eq_of_lt h1,Nat.zero_add]
 ·rw[Nat.add_mul_mod_self_left,Nat.mod_eq_of_lt h1]
theorem Ax (v:Int)(k:Nat)(hk:k≤63):aM ((v,((k:Int),())),())=some (((uns v/2^k%2:Nat):Int),()):=by
 rw[ly _ _ (by omega) (by omega),Int.toNat_natCast,←bi]
 simp
theorem Dh (v:Int)(k:Nat):eqI ((uns v/2^k%2:Nat):Int) 1=kL v k:=by
 rw[gX,Nat.testBit_eq_decide_div_mod_eq]
 unfold eqI
 rw[Bool.eq_iff_iff,decide_eq_true_eq,decide_eq_true_eq]
 omega
theorem jU (b:Bool)(k:Int):bS ((b,(k,())),())=some (if b=true then k else 0,()):=by
 unfold bS
 cases b<;>rfl
theorem uE (b:Bool):eF ((b,()),())=some (if b=true then 1 else 0,()):=by
 unfold eF
 cases b<;>rfl
def uU (u:Nat):Nat→Nat
 |0=>0
 |k+1=>uU u k+u/2^k%2
theorem EA (u k:Nat):uU u k≤k:=by
 induction k with
 |zero=>exact Nat.le_refl 0
 |succ k ih=>unfold uU;omega
theorem EZ (u:Nat)(h:u<256):parL.getD u false=((u%2+u/2%2+u/4%2+u/8%2+u/16%2+u/32%2+u/64%2+u/128%2)%2==0):=by
 unfold parL
 rw[List.getD_eq_getElem?_getD,List.getElem?_map,List.getElem?_range h]
 rfl
theorem li (u k:Nat)(hk:k<8):u%256/2^k%2=u/2^k%2:=by
 have h:256=2^k*2^(8-k):=by rw[←Nat.pow_add,show k+(8-k)=8 by omega]
 have h2:2^(8-k)=2*2^(7-k):=by rw[show 8-k=7-k+1 by omega,Nat.pow_succ,Nat.mul_comm]
 rw[h,Nat.mod_mul_right_div_self,h2,Nat.mod_mul_right_mod]
theorem Cj (v:Int):eqI (fc ((uU (uns v) 8:Nat):Int) 2) 0=EY v:=by
 unfold EY
 rw[EZ _ (Nat.mod_lt _ (by decide)),dL (by omega)]
 generalize uns v=u
 have b0:=li u 0 (by decide)
 have b1:=li u 1 (by decide)
 have b2:=li u 2 (by decide)
 have b3:=li u 3 (by decide)
 have b4:=li u 4 (by decide)
 have b5:=li u 5 (by decide)
 have b6:=li u 6 (by decide)
 have b7:=li u 7 (by decide)
 rw[show(2:Nat)^0=1 from rfl,Nat.div_one,Nat.div_one]at b0
 rw[show(2:Nat)^1=2 from rfl]at b1
 rw[show(2:Nat)^2=4 from rfl]at b2
 rw[show(2:Nat)^3=8 from rfl]at b3
 rw[show(2:Nat)^4=16 from rfl]at b4
 rw[show(2:Nat)^5=32 from rfl]at b5
 rw[show(2:Nat)^6=64 from rfl]at b6
 rw[show(2:Nat)^7=128 from rfl]at b7
 rw[b0,b1,b2,b3,b4,b5,b6,b7]
 have e:uU u 8=u%2+u/2%2+u/4%2+u/8%2+u/16%2+u/32%2+u/64%2+u/128%2:=by
  show 0+u/2^0%2+u/2^1%2+u/2^2%2+u/2^3%2+u/2^4%2+u/2^5%2+u/2^6%2+u/2^7%2=_
  rw[Nat.zero_add,show(2:Nat)^0=1 from rfl,Nat.div_one]
 rw[e]
 generalize u%2+u/2%2+u/4%2+u/8%2+u/16%2+u/32%2+u/64%2+u/128%2=t
 unfold eqI
 rw[Bool.eq_iff_iff,decide_eq_true_eq,beq_iff_eq]
 omega
theorem nm {v:Int}{n:Nat}(hn:b8 (n:Int)=true)(hv:I64 v):cT (((n:Int),(v,())),())=some (vJ n v,()):=by
 obtain⟨h1,h8⟩:=dq hn
 unfold cT
 dsimp only
 refine(Ret.iter (fun x=>∃k:Nat,k≤8∧x=(((n:Int),(v,(((uU (uns v) k:Nat):Int),((k:Int),())))),())) (fun x=>8-x.1.2.2.2.1.toNat) ?_ F _ ⟨0,by omega,rfl⟩ (by unfold F;dsimp only;omega)).eq
 rintro _ rec ⟨k,hk,rfl⟩ hrec
 dsimp only at hrec⊢
 by_cases h:k<8
 ·rw[af (ii (by omega)),Ax _ _ (by omega),aa]
  dsimp only
  have:=EA (uns v) k
  rw[bu (by omega) (by omega),bu (a:=(k:Int)) (by omega) (by omega)]
  exact hrec _ ⟨k+1,by omega,by
   rw[show uU (uns v) (k+1)=uU (uns v) k+uns v/2^k%2 from rfl,Int.natCast_add]
   rfl⟩ (by dsimp only;omega)
 ·obtain rfl:k=8:=by omega
  rw[am (gF (by omega)),eu (a:=8) (by omega) (by omega),ck (by omega) (by omega),show 8*(n:Int)-1=((8*n-1:Nat):Int)by omega,Ax _ _ (by omega),aa]
  dsimp only
  rw[Dh,jU,aa,bn hv n hn,aa]
  dsimp only
  rw[jU,aa]
  dsimp only
  rw[Cj,jU,aa]
  refine Ret.some ?_
  unfold vJ
  simp only[oF]
theorem bitOr {out i b:Nat}(h:out<2^i)(hb:b≤1)(hi:i≤63):ior .u64 (out:Int) (dg .u64 (b:Int) (i:Int))=((out+2^i*b:Nat):Int):=by
 have hp:2^(i+1)≤2^64:=Nat.pow_le_pow_right (by decide) (by omega)
 have hl:b*2^i<2^64:=by
  have:b*2^i≤1*2^i:=Nat.mul_le_mul_right _ hb
  rw[Nat.pow_succ]at hp
  have:=Nat.two_pow_pos i
  omega
 have hs:out+2^i*b<2^64:=by
  have:2^i*b≤2^i*1:=Nat.mul_le_mul_left _ hb
  rw[Nat.pow_succ]at hp
  omega
 rw[Gk (by omega),Nat.mod_eq_of_lt hl]
 unfold ior
 rw[eD]
 have e1:(BitVec.ofInt IntKind.u64.bits (out:Int)|||BitVec.ofInt IntKind.u64.bits ((b*2^i:Nat):Int)).toNat=out|||b*2^i:=by
  rw[BitVec.toNat_or]
  show(BitVec.ofInt 64 (out:Int)).toNat|||(BitVec.ofInt 64 ((b*2^i:Nat):Int)).toNat=_
  have hh:∀k:Nat,k<2^64→(BitVec.ofInt 64 (k:Int)).toNat=k:=fun k hk=>by
   rw[BitVec.toNat_ofInt]
   have:((k:Int)%((2^64:Nat):Int))=((k%2^64:Nat):Int):=(Int.natCast_emod ..).symm
   rw[this,Int.toNat_natCast,Nat.mod_eq_of_lt hk]
  rw[hh _ (by omega),hh _ hl]
 rw[e1,Nat.or_comm,Nat.mul_comm b,←Nat.two_pow_add_eq_or_of_lt h,Nat.add_comm]
 have:((out+2^i*b:Nat):Int)<((2^64:Nat):Int):=Int.ofNat_lt.2 hs
 exact Int.emod_eq_of_lt (by omega) this
theorem tn {i n:Nat}(h:i≤8*n)(v:Int):bW v n%2^i=uns v%2^i:=by
 unfold bW
 exact Nat.mod_mod_of_dvd _ (Nat.pow_dvd_pow 2 h)
theorem kx {a b:Int}{n c:Nat}(less:Bool)(hn:b8 (n:Int)=true)(hc:c≤1):
  bY (((n:Int),(a,(b,((c:Int),(less,()))))),())=some (((if less=true then sa n a b c else tQ n a b c).1,((if less=true then sa n a b c else tQ n a b c).2,())),()):=by
 obtain⟨h1,h8⟩:=dq hn
 unfold bY
 dsimp only
 refine(Ret.iter (fun x=>∃i out c' into:Nat,i≤8*n∧(if less=true then SubInv (uns a) (uns b) c i out c' else AddInv (uns a) (uns b) c i out c')∧
   (∀j,i=j+1→∃out',if less=true then SubInv (uns a) (uns b) c j out' into else AddInv (uns a) (uns b) c j out' into)∧
   x=(((n:Int),(a,(b,(less,((out:Int),((c':Int),((into:Int),((i:Int),())))))))),())) (fun x=>8*n-(p7 x.1).toNat) ?_ F _ ⟨0,0,c,0,by omega,by cases less;exact AddInv.init hc;exact SubInv.init hc,fun j hj=>by omega,rfl⟩ (by unfold F;dsimp only[p7];omega)).eq
 rintro _ rec ⟨i,out,c',into,hi,hv,hin,rfl⟩ hrec
 dsimp only[p5,p6,p7,p8,d7]at hrec⊢
 rw[eu (a:=8) (by omega) (by omega)]
 by_cases h:i<8*n
 ·rw[af (ii (by omega)),Ax _ _ (by omega),Ax _ _ (by omega),aa,aa]
  dsimp only
  have hx:=oT (uns a) i
  have hy:=oT (uns b) i
  have hwi:ah .u64 (i:Int)=(i:Int):=co (by omega) (by omega)
  have next:∀(d k:Nat),d≤1→k≤1→(if less=true then SubInv (uns a) (uns b) c (i+1) (out+2^i*d) k else AddInv (uns a) (uns b) c (i+1) (out+2^i*d) k)→
    Ret (br (leI 0 (ah .u64 (i:Int))) (rec (((n:Int),(a,(b,(less,((ior .u64 (out:Int) (dg .u64 (ah .u64 (d:Int)) (ah .u64 (i:Int)))),((k:Int),((c':Int),((aG .i64 (i:Int) 1),())))))))),())) none) (fun z=>z=(((if less=true then sa n a b c else tQ n a b c).1,((if less=true then sa n a b c else tQ n a b c).2,())),())):=fun d k hd hk hinv=>by
   have hwd:ah .u64 (d:Int)=(d:Int):=co (by omega) (by omega)
   have hlo:out<2^i:=by cases less;exact hv.lo;exact hv.lo
   rw[hwi,hwd,af (eY (by omega)),bitOr hlo hd (by omega),bu (by omega) (by omega)]
   exact hrec _ ⟨i+1,_,k,c',by omega,hinv,fun j hj=>by
    obtain rfl:j=i:=by omega
    exact⟨out,hv⟩,rfl⟩ (by dsimp only;omega)
  cases less with
  |true=>
   rw[aH,uE,aa,aa,ag]
   have hv:SubInv (uns a) (uns b) c i out c':=hv
   have hc':=hv.hc
   have st:=hv.step
   obtain⟨x,hx'⟩:∃x,x=uns a/2^i%2:=⟨_,rfl⟩
   obtain⟨y,hy'⟩:∃y,y=uns b/2^i%2:=⟨_,rfl⟩
   rw[←hx']at hx st⊢
   rw[←hy']at hy st⊢
   have e1:aG .i64 (aV .i64 (aV .i64 (x:Int) (y:Int)) (c':Int)) 2=((x+2-y-c':Nat):Int):=by
    rw[ck (a:=(x:Int)) (b:=(y:Int)) (by omega) (by omega),ck (by omega) (by omega),bu (by omega) (by omega)];omega
   rw[e1,dL (by omega)]
   have e2:((x+2-y-c':Nat):Int)%2=(((x+2-y-c')%2:Nat):Int):=by omega
   have e3:(if ltI ((x+2-y-c':Nat):Int) 2=true then(1:Int)else 0)=((if x+2-y-c'<2 then 1 else 0:Nat):Int):=by
    by_cases g:x+2-y-c'<2
    ·rw[ii (by omega),if_pos rfl,if_pos g];rfl
    ·rw[gF (by omega),if_neg (by decide),if_neg g];rfl
   dsimp only
   rw[e2,e3]
   exact next _ _ (by omega) (by split<;>omega) st
  |false=>
   rw[aj,aa,ag]
   have hv:AddInv (uns a) (uns b) c i out c':=hv
   have hc':=hv.hc
   have st:=hv.step
   obtain⟨x,hx'⟩:∃x,x=uns a/2^i%2:=⟨_,rfl⟩
   obtain⟨y,hy'⟩:∃y,y=uns b/2^i%2:=⟨_,rfl⟩
   rw[←hx']at hx st⊢
   rw[←hy']at hy st⊢
   have e1:aG .i64 (aG .i64 (x:Int) (y:Int)) (c':Int)=((x+y+c':Nat):Int):=by
    rw[bu (a:=(x:Int)) (b:=(y:Int)) (by omega) (by omega),bu (by omega) (by omega)];omega
   rw[e1,dL (by omega),gw (by omega) (by decide) (by omega)]
   have e2:((x+y+c':Nat):Int)%2=(((x+y+c')%2:Nat):Int):=by omega
   have e3:((x+y+c':Nat):Int)/2=(((x+y+c')/2:Nat):Int):=by omega
   dsimp only
   rw[e2,e3]
   exact next _ _ (by omega) (by omega) st
 ·obtain rfl:i=8*n:=by omega
  obtain⟨out',hin⟩:=hin (8*n-1) (by omega)
  rw[am (gF (by omega))]
  have hV:ah .i64 (out:Int)=(if less=true then Fz n a b c else sumV n a b c):=by
   cases less with
   |true=>
    have hv:SubInv (uns a) (uns b) c (8*n) out c':=hv
    rw[if_pos rfl]
    unfold Fz mo ah
    have:=hv.fin.1
    unfold bW
    rw[←this,Nat.mod_eq_of_lt hv.lo]
   |false=>
    have hv:AddInv (uns a) (uns b) c (8*n) out c':=hv
    rw[if_neg (by decide)]
    unfold sumV mo ah
    have:=hv.fin.1
    unfold bW
    rw[←this]
  have hC:eqI (c':Int) 1=(if less=true then subC n a b c else sumC n a b c):=by
   cases less with
   |true=>
    have hv:SubInv (uns a) (uns b) c (8*n) out c':=hv
    rw[if_pos rfl]
    unfold subC bW eqI
    have:=hv.fin.2
    rw[Bool.eq_iff_iff,decide_eq_true_eq,decide_eq_true_eq]
    by_cases g:uns a%2^(8*n)<uns b%2^(8*n)+c
    ·rw[if_pos g]at this;omega
    ·rw[if_neg g]at this;omega
   |false=>
    have hv:AddInv (uns a) (uns b) c (8*n) out c':=hv
    rw[if_neg (by decide)]
    unfold sumC bW eqI
    rw[←hv.fin.2,Bool.eq_iff_iff,decide_eq_true_eq,decide_eq_true_eq]
    omega
  have hT:eqI (into:Int) 1=(if less=true then CT n a b c else sumI n a b c)∧into≤1:=by
   cases less with
   |true=>
    have hin:SubInv (uns a) (uns b) c (8*n-1) out' into:=hin
    refine⟨?_,hin.hc⟩
    rw[if_pos rfl]
    unfold CT eqI
    rw[tn (by omega),tn (by omega)]
    have:=hin.fin.2
    rw[Bool.eq_iff_iff,decide_eq_true_eq,decide_eq_true_eq]
    by_cases g:uns a%2^(8*n-1)<uns b%2^(8*n-1)+c
    ·rw[if_pos g]at this;omega
    ·rw[if_neg g]at this;omega
   |false=>
    have hin:AddInv (uns a) (uns b) c (8*n-1) out' into:=hin
    refine⟨?_,hin.hc⟩
    rw[if_neg (by decide)]
    unfold sumI eqI
    rw[tn (by omega),tn (by omega),←hin.fin.2,Bool.eq_iff_iff,decide_eq_true_eq,decide_eq_true_eq]
    omega
  have hc':c'≤1:=by cases less;exact hv.hc;exact hv.hc
  have hne:aX (eqI (c':Int) (into:Int))=(eqI (c':Int) 1 != eqI (into:Int) 1):=by
   have:=hT.2
   rw[neI]
   have a1:c'=0∨c'=1:=by omega
   have a2:into=0∨into=1:=by omega
   rcases a1 with rfl|rfl<;>rcases a2 with rfl|rfl<;>rfl
  rw[hV,nm hn (by split<;>exact jS _ _),aa,jU,aa,hne,hC,hT.1,jU,aa]
  dsimp only
  refine Ret.some ?_
  cases less with
  |true=>rfl
  |false=>rfl
theorem tF {a b:Int}{n c:Nat}(hn:b8 (n:Int)=true)(ha:I64 a)(hb:I64 b):tQ n (bO a n) (bO b n) c=tQ n a b c:=by
 unfold tQ sumV sumC sumI
 rw[mb ha hn,mb hb hn]
theorem px {a b:Int}{n c:Nat}(hn:b8 (n:Int)=true)(ha:I64 a)(hb:I64 b):sa n (bO a n) (bO b n) c=sa n a b c:=by
 unfold sa Fz subC CT
 rw[mb ha hn,mb hb hn]
theorem uL {v w:Int}{n:Nat}(hn:b8 (n:Int)=true)(hv:I64 v)(hw:I64 w)(h:bW v n=bW w n):bO v n=bO w n:=by rw[ib hv hn,ib hw hn,h]
theorem sd {v w:Int}{n:Nat}(hn:b8 (n:Int)=true)(hv:I64 v)(hw:I64 w)(h:bW v n=bW w n):vJ n v=vJ n w:=by
 obtain⟨h1,h8⟩:=dq hn
 unfold vJ
 rw[i7 (n:=n) (by omega),i7 (v:=w) (n:=n) (by omega),h,uL hn hv hw h]
 have hp:EY v=EY w:=by
  unfold EY
  have e:∀v:Int,uns v%256=bW v n%256:=fun v=>by
   unfold bW
   rw[Nat.mod_mod_of_dvd _ (show 256∣2^(8*n)from by
    have:=Nat.pow_dvd_pow 2 (show 8≤8*n by omega)
    exact this)]
  rw[e v,e w,h]
 rw[hp]
theorem FC {v:Int}{n:Nat}(hn:b8 (n:Int)=true)(hv:I64 v):vJ n (bO v n)=vJ n v:=sd hn (dX hv hn) hv (mb hv hn)
theorem mj (op a b:Int):I64 (kZ op a b):=by
 unfold kZ
 split
 ·exact j6 ..
 split
 ·exact mZ ..
 ·exact ar _
theorem yV {op a b:Int}{n:Nat}(hn:b8 (n:Int)=true)(ha:I64 a)(hb:I64 b):bW (kZ op (bO a n) (bO b n)) n=bW (kZ op a b) n∧bW (kZ op a b) n=uns (kZ op (bO a n) (bO b n)):=by
 have h8:=(dq hn).2
 have hlt:∀v,bW v n%2^(8*n)=bW v n:=fun v=>Nat.mod_eq_of_lt (fL v n)
 have key:bW (kZ op a b) n=uns (kZ op (bO a n) (bO b n)):=by
  unfold kZ
  split
  ·rw[lP,cg ha hn,cg hb hn]
   unfold bW
   rw[lP,Nat.or_mod_two_pow]
  split
  ·rw[pz,cg ha hn,cg hb hn]
   unfold bW
   rw[pz,Nat.xor_mod_two_pow]
  ·rw[py,cg ha hn,cg hb hn]
   unfold bW
   rw[py,Nat.and_mod_two_pow]
 refine⟨?_,key⟩
 show uns (kZ op (bO a n) (bO b n))%2^(8*n)=_
 rw[←key,hlt]
theorem vO {op a b:Int}{n:Nat}(hn:b8 (n:Int)=true)(ha:I64 a)(hb:I64 b):bO (kZ op a b) n=kZ op (bO a n) (bO b n):=by
 refine iV (dX (mj ..) hn) (mj ..) ?_
 rw[cg (mj ..) hn,(yV hn ha hb).2]
theorem zv (op a b:Int):gf ((op,(a,(b,()))),())=some (kZ op a b,()):=by
 unfold gf kZ
 dsimp only
 by_cases h2:op=2
 ·rw[bc h2,aH,if_pos h2]
 ·rw[aq h2,aj,if_neg h2]
  by_cases h7:op=7
  ·rw[bc h7,aH,if_pos h7]
  ·rw[aq h7,aj,if_neg h7]
theorem By {op a b f:Int}{n:Nat}(hn:b8 (n:Int)=true)(ha:I64 a)(hb:I64 b):gR ((op,((n:Int),(a,(b,(f,()))))),())=some (((vZ op n a b f).1,((vZ op n a b f).2,())),()):=by
 unfold gR vZ
 dsimp only
 have hf:ct .i64 f 1=(((f%2).toNat:Nat):Int):=ur f
 have hc:(f%2).toNat≤1:=by omega
 have add0:=kx (a:=a) (b:=b) (c:=0) false hn (by decide)
 have addc:=kx (a:=a) (b:=b) (c:=(f%2).toNat) false hn hc
 have sub0:=kx (a:=a) (b:=b) (c:=0) true hn (by decide)
 have subc:=kx (a:=a) (b:=b) (c:=(f%2).toNat) true hn hc
 rw[if_neg (by decide)]at add0 addc
 rw[if_pos rfl]at sub0 subc
 have z0:((0:Nat):Int)=0:=rfl
 rw[z0]at add0 sub0
 rw[tF hn ha hb,tF hn ha hb,px hn ha hb,px hn ha hb,hf]
 by_cases h1:op=1
 ·rw[bc h1,aH,if_pos h1,add0,aa]
 rw[aq h1,aj,if_neg h1]
 by_cases h3:op=3
 ·rw[bc h3,aH,if_pos h3,addc,aa]
 rw[aq h3,aj,if_neg h3]
 by_cases h6:op=6
 ·rw[bc h6,aH,if_pos h6,sub0,aa]
 rw[aq h6,aj,if_neg h6]
 by_cases h4:op=4
 ·rw[bc h4,aH,if_pos h4,subc,aa]
 rw[aq h4,aj,if_neg h4]
 by_cases h8:op=8
 ·rw[bc h8,aH,if_pos h8,sub0,aa,bn ha n hn,aa]
 rw[aq h8,aj,if_neg h8]
 by_cases h10:op=10
 ·rw[bc h10,aH,if_pos h10,bn ha n hn,aa,nm (v:=ct .i64 a b) hn (ar _),aa]
  have e:=sd (v:=ct .i64 a b) (w:=ct .i64 (bO a n) (bO b n)) hn (ar _) (ar _) (yV (op:=0) hn ha hb).1.symm
  dsimp only
  rw[e]
 rw[aq h10,aj,if_neg h10,zv,aa]
 dsimp only
 rw[bn (mj ..) n hn,aa,nm hn (mj ..),aa]
 dsimp only
 rw[vO hn ha hb,←FC hn (mj op a b),vO hn ha hb]
theorem not_low {a:Int}{n:Nat}(hn:b8 (n:Int)=true)(ha:I64 a):bO (vR .i64 a) n=bO (vR .i64 (bO a n)) n:=by
 have hi:∀v,I64 (vR .i64 v):=fun v=>mZ ..
 refine uL hn (hi _) (hi _) ?_
 obtain⟨K,hK⟩:∃K,K=uns (-1):=⟨_,rfl⟩
 have hu:∀v,uns (vR .i64 v)=K ^^^uns v:=fun v=>by
  rw[hK]
  exact pz (-1) v
 unfold bW
 rw[hu,hu,Nat.xor_mod_two_pow,Nat.xor_mod_two_pow,cg ha hn]
 unfold bW
 rw[Nat.mod_mod]
theorem Bz {op a f:Int}{n:Nat}(hn:b8 (n:Int)=true)(ha:I64 a):gU ((op,((n:Int),(a,(f,())))),())=some (((wX op n a f).1,((wX op n a f).2,())),()):=by
 unfold gU wX
 dsimp only
 have neg:=kx (a:=0) (b:=a) (c:=0) true hn (by decide)
 have inc:=fun l=>kx (a:=a) (b:=1) (c:=0) l hn (by decide)
 rw[if_pos rfl,show((0:Nat):Int)=0 from rfl]at neg
 have l1:bO 1 n=1:=(wL hn).1
 have l0:bO 0 n=0:=(BN hn).1
 have i1:I64 1:=by unfold I64;omega
 have i0:I64 0:=by unfold I64;omega
 have e1:=px (c:=0) hn i0 ha
 have e2:=px (c:=0) hn ha i1
 have e3:=tF (c:=0) hn ha i1
 rw[l0]at e1
 rw[l1]at e2 e3
 rw[e1,e2,e3]
 by_cases h11:op=11
 ·rw[bc h11,aH,if_pos h11,bn (v:=vR .i64 a) (mZ ..) n hn,aa]
  dsimp only
  rw[not_low hn ha]
 rw[aq h11,aj,if_neg h11]
 by_cases h12:op=12
 ·rw[bc h12,aH,if_pos h12,neg,aa]
 rw[aq h12,aj,if_neg h12]
 have hI:bY (((n:Int),(a,(1,(0,(eqI op 19,()))))),())=_:=inc (eqI op 19)
 rw[hI,aa]
 by_cases h19:op=19
 ·rw[bc h19,if_pos h19,if_pos rfl]
  rfl
 ·rw[aq h19,if_neg h19,if_neg (by decide)]
  rfl
theorem gm (x:Int):I64 (ah .i64 x):=ar _
theorem xorB (v w:Int)(k j:Nat):eqI (qa .i64 ((uns v/2^k%2:Nat):Int) ((uns w/2^j%2:Nat):Int)) 1=(kL v k != kL w j):=by
 rw[←Dh v k,←Dh w j]
 rcases oT (uns v) k with h|h<;>rcases oT (uns w) j with g|g<;>rw[h,g]<;>rfl
theorem topU {a:Int}{n:Nat}(h1:1≤n):bW a n/2^(8*n-1)=uns a/2^(8*n-1)%2:=by
 unfold bW
 have h:2^(8*n)=2^(8*n-1)*2:=by rw[←Nat.pow_succ,show(8*n-1).succ=8*n by omega]
 rw[h,Nat.mod_mul_right_div_self]
theorem lowbit {a:Int}{n:Nat}(h1:1≤n):bW a n%2=uns a/2^0%2:=by
 unfold bW
 rw[Nat.pow_zero,Nat.div_one]
 exact Nat.mod_mod_of_dvd _ (by
  have:=Nat.pow_dvd_pow 2 (show 1≤8*n by omega)
  exact this)
theorem yO {a:Int}{n:Nat}(hn:b8 (n:Int)=true):uns (bO (ah .i64 (dg .u64 (ah .u64 a) 1)) n)=(2*bW a n)%2^(8*n):=by
 obtain⟨h1,h8⟩:=dq hn
 rw[cg (gm _) hn,dU]
 unfold bW ah
 rw[bP,show(1:Int)=((1:Nat):Int)from rfl,Gk (by decide),eB (Nat.mod_lt _ (by decide))]
 have hd:2^(8*n)∣18446744073709551616:=Nat.pow_dvd_pow 2 (show 8*n≤64 by omega)
 rw[Nat.mod_mod_of_dvd _ hd,Nat.pow_one,Nat.mul_comm (uns a) 2]
 rw[Nat.mul_mod 2 (uns a%2^(8*n)),Nat.mod_mod,←Nat.mul_mod]
theorem yQ {a:Int}{n:Nat}(hn:b8 (n:Int)=true)(ha:I64 a):cf .u64 (ah .u64 (bO a n)) 1=((bW a n/2:Nat):Int):=by
 rw[dU,cg ha hn,show(1:Int)=((1:Nat):Int)from rfl,zR (by decide),Nat.pow_one]
theorem yi {a:Int}{n:Nat}(h1:1≤n):bW a n/2<2^(8*n-1):=by
 have h:=fL a n
 rw[show 8*n=8*n-1+1 by omega,Nat.pow_succ]at h
 generalize bW a n=u at*
 omega
theorem nv {op:Int}{n:Nat}(hn:b8 (n:Int)=true){a v:Int}(hv:I64 v)(h:uns v=uT op (8*n) (bW a n)):v=iK op n a:=by
 refine iV hv (fB ..) ?_
 rw[h,jG _ hn]
theorem zu {op a f:Int}{n:Nat}(hop:20≤op∧op≤24)(hn:b8 (n:Int)=true)(ha:I64 a):
  ge ((op,((n:Int),(a,(f,())))),())=some (((qw op n a f).1,((qw op n a f).2,())),()):=by
 obtain⟨h1,h8⟩:=dq hn
 unfold ge
 dsimp only
 have e8:aV .i64 (bE .i64 8 (n:Int)) 1=((8*n-1:Nat):Int):=by
  rw[eu (a:=8) (by omega) (by omega),ck (by omega) (by omega)];omega
 have e7:aV .i64 ((8*n-1:Nat):Int) 1=((8*n-2:Nat):Int):=by
  rw[ck (by omega) (by omega)];omega
 have w8:ah .u64 ((8*n-1:Nat):Int)=((8*n-1:Nat):Int):=co (by omega) (by omega)
 have b0:aM ((a,(0,())),())=some (((uns a/2^0%2:Nat):Int),()):=Ax a 0 (by decide)
 rw[e8,Ax _ _ (by omega),aa,b0,aa]
 dsimp only
 have hwb:∀x:Nat,x%2=x→ah .u64 (x:Int)=(x:Int):=fun x hx=>co (by omega) (by omega)
 refine(Ret.bnd (Q:=fun y=>∃c o:Int,y=Sum.inl ((op,((n:Int),(f,(iK op n a,(c,(o,())))))),())∧eqI c 1=wV op n a∧eqI o 1=wW op n a) ?_ ?_).eq
 ·by_cases h20:op=20
  ·subst h20
   rw[bc rfl,aH,bn (gm _) n hn,aa]
   dsimp only
   have hV:ior .i64 (bO (ah .i64 (dg .u64 (ah .u64 a) 1)) n) ((uns a/2^(8*n-1)%2:Nat):Int)=iK 20 n a:=by
    refine nv hn (j6 ..) ?_
    rw[lP,yO hn,eB (by have:=oT (uns a) (8*n-1);omega)]
    unfold uT
    rw[if_pos rfl,topU h1]
    have hev:(2*bW a n)%2^(8*n)%2=0:=by
     rw[Nat.mod_mod_of_dvd _ (by
      have:=Nat.pow_dvd_pow 2 (show 1≤8*n by omega)
      exact this)]
     omega
    have:=Gd hev (decide (uns a/2^(8*n-1)%2=1))
    rcases oT (uns a) (8*n-1)with h|h
    ·rw[h]at this⊢;simp
    ·rw[h]at this⊢;simpa using this
   rw[hV,Ax _ _ (by omega),aa]
   exact Ret.some ⟨_,_,rfl,by rw[Dh];rfl,by rw[xorB];rfl⟩
  rw[aq h20,aj]
  refine Ret.bnd (Q:=fun y=>∃c o:Int,y=Sum.inl ((op,((n:Int),(f,(iK op n a,(c,(o,())))))),())∧eqI c 1=wV op n a∧eqI o 1=wW op n a) ?_ (by rintro _ ⟨c,o,rfl,g⟩;rw[ag];exact Ret.some ⟨c,o,rfl,g⟩)
  by_cases h22:op=22
  ·subst h22
   rw[bc rfl,aH,bn (gm _) n hn,aa]
   dsimp only
   have hV:bO (ah .i64 (dg .u64 (ah .u64 a) 1)) n=iK 22 n a:=by
    refine nv hn (dX (gm _) hn) ?_
    rw[yO hn]
    rfl
   rw[hV,Ax _ _ (by omega),aa]
   exact Ret.some ⟨_,_,rfl,by rw[Dh];rfl,by rw[xorB];rfl⟩
  rw[aq h22,aj]
  refine Ret.bnd (Q:=fun y=>∃c o:Int,y=Sum.inl ((op,((n:Int),(f,(iK op n a,(c,(o,())))))),())∧eqI c 1=wV op n a∧eqI o 1=wW op n a) ?_ (by rintro _ ⟨c,o,rfl,g⟩;rw[ag];exact Ret.some ⟨c,o,rfl,g⟩)
  have hjoin:∀x:Nat,x≤1→ah .i64 (ior .u64 (cf .u64 (ah .u64 (bO a n)) 1) (dg .u64 (ah .u64 (x:Int)) ((8*n-1:Nat):Int)))=IntKind.wrap .i64 ((bW a n/2+2^(8*n-1)*x:Nat):Int)∧uns (IntKind.wrap .i64 ((bW a n/2+2^(8*n-1)*x:Nat):Int))=bW a n/2+x*2^(8*n-1):=fun x hx=>by
   refine⟨?_,?_⟩
   ·rw[yQ hn ha,co (by omega) (by omega),bitOr (yi h1) hx (by omega)]
    rfl
   ·rw[bP,Nat.mul_comm x,eB]
    have hp:2^(8*n-1+1)≤2^64:=Nat.pow_le_pow_right (by decide) (by omega)
    have:=yi (a:=a) h1
    have:2^(8*n-1)*x≤2^(8*n-1)*1:=Nat.mul_le_mul_left _ hx
    rw[Nat.pow_succ]at hp
    omega
  by_cases h21:op=21
  ·subst h21
   rw[bc rfl,aH,bn ha n hn,aa]
   dsimp only
   obtain⟨j1,j2⟩:=hjoin (uns a/2^0%2) (by omega)
   rw[w8,af (eY (by omega)),j1]
   have hV:IntKind.wrap .i64 ((bW a n/2+2^(8*n-1)*(uns a/2^0%2):Nat):Int)=iK 21 n a:=by
    refine nv hn (ar _) ?_
    rw[j2,←lowbit h1]
    rfl
   rw[hV,Ax _ _ (by omega),aa,e7,Ax _ _ (by omega),aa]
   exact Ret.some ⟨_,_,rfl,by rw[Dh];rfl,by rw[xorB];rfl⟩
  rw[aq h21,aj]
  refine Ret.bnd (Q:=fun y=>∃c o:Int,y=Sum.inl ((op,((n:Int),(f,(iK op n a,(c,(o,())))))),())∧eqI c 1=wV op n a∧eqI o 1=wW op n a) ?_ (by rintro _ ⟨c,o,rfl,g⟩;rw[ag];exact Ret.some ⟨c,o,rfl,g⟩)
  by_cases h23:op=23
  ·subst h23
   rw[bc rfl,aH,bn ha n hn,aa]
   dsimp only
   have hV:ah .i64 (cf .u64 (ah .u64 (bO a n)) 1)=iK 23 n a:=by
    refine nv hn (ar _) ?_
    rw[yQ hn ha]
    unfold ah
    rw[bP,eB]
    ·rfl
    ·have:=dV a
     have:bW a n≤uns a:=Nat.mod_le _ _
     omega
   rw[hV]
   exact Ret.some ⟨_,_,rfl,by rw[Dh];rfl,by rw[Dh];rfl⟩
  ·have h24:op=24:=by omega
   subst h24
   rw[aq (by decide),aj,bn ha n hn,aa]
   dsimp only
   obtain⟨j1,j2⟩:=hjoin (uns a/2^(8*n-1)%2) (by omega)
   rw[w8,af (eY (by omega)),j1]
   have hV:IntKind.wrap .i64 ((bW a n/2+2^(8*n-1)*(uns a/2^(8*n-1)%2):Nat):Int)=iK 24 n a:=by
    refine nv hn (ar _) ?_
    rw[j2,←topU h1]
    rfl
   rw[hV]
   exact Ret.some ⟨_,_,rfl,by rw[Dh];rfl,rfl⟩
 rintro _ ⟨c,o,rfl,hC,hO⟩
 rw[ag]
 dsimp only[p5]
 have hbr:br (aX (eqI op 20)) (some (aX (eqI op 21))) (some false)=some (decide (¬(op=20∨op=21))):=by
  by_cases a8:op=20
  ·rw[bc a8,ce,aj,decide_eq_false (by omega)]
  ·rw[aq a8,cP,aH]
   by_cases a10:op=21
   ·rw[bc a10,ce,decide_eq_false (by omega)]
   ·rw[aq a10,cP,decide_eq_true (by omega)]
 rw[hbr,aa]
 refine Ret.bnd (Q:=fun y=>y=Sum.inl ((iK op n a,(c,(o,(zD op n a f,())))),())) ?_ ?_
 ·unfold zD
  by_cases hk:op=20∨op=21
  ·rw[decide_eq_false (by omega),aj,if_pos hk]
   exact Ret.some rfl
  ·rw[decide_eq_true hk,aH,if_neg hk,nm hn (fB ..),aa]
   exact Ret.some rfl
 rintro _ rfl
 rw[ag]
 dsimp only
 rw[jU,aa,jU,aa,hC,hO]
 exact Ret.some rfl
theorem zn (op:Int)(n k:Nat)(x:Int×Int):pZ op n (k+1) x=pZ op n k (qw op n x.1 x.2):=rfl
theorem wJ {op a k f:Int}{n:Nat}(hop:20≤op∧op≤24)(hn:b8 (n:Int)=true)(ha:I64 a):
  fw ((op,((n:Int),(a,(k,(f,()))))),())=some (((iN op n a k f).1,((iN op n a k f).2,())),()):=by
 obtain⟨h1,h8⟩:=dq hn
 unfold fw iN
 dsimp only
 have hk:=bi k
 have hku:=dV k
 have hcnt:∀m:Int,m=64∨m=32→ah .i64 (fc (ah .u64 k) m)=k%m:=fun m hm=>by
  rw[dU,dL (by omega)]
  have:((uns k:Nat):Int)%m=k%m:=by
   rw[hk,show(2:Int)^64=18446744073709551616 from rfl]
   rcases hm with rfl|rfl<;>omega
  rw[this]
  exact da (by unfold I64;rcases hm with rfl|rfl<;>omega)
 refine(Ret.bnd (Q:=fun y=>y=Sum.inl ((op,((n:Int),(a,(f,(((xk n k:Nat):Int),()))))),())) ?_ ?_).eq
 ·unfold xk
  by_cases h:n=8
  ·rw[bc (show(n:Int)=8 by omega),aH,hcnt 64 (.inl rfl),if_pos h]
   exact Ret.some (by rw[show k%64=(((k%64).toNat:Nat):Int)by omega];rfl)
  ·rw[aq (show(n:Int)≠8 by omega),aj,hcnt 32 (.inr rfl),if_neg h]
   exact Ret.some (by rw[show k%32=(((k%32).toNat:Nat):Int)by omega];rfl)
 rintro _ rfl
 rw[ag]
 dsimp only
 rw[bn ha n hn,aa]
 have hN:xk n k<64:=by unfold xk;split<;>omega
 obtain⟨N,hNe⟩:∃N,N=xk n k:=⟨_,rfl⟩
 rw[←hNe]at hN⊢
 refine Ret.iter (fun x=>∃(i:Nat) (v g:Int),i≤N∧I64 v∧pZ op n (N-i) (v,g)=pZ op n N (bO a n,f)∧x=((op,((n:Int),(g,((N:Int),(v,((i:Int),())))))),())) (fun x=>N-(p5 x.1).toNat) ?_ F _ ⟨0,_,f,by omega,dX ha hn,rfl,rfl⟩ (by unfold F;dsimp only[p5];omega)
 rintro _ rec ⟨i,v,g,hi,hv,he,rfl⟩ hrec
 dsimp only[p5]at hrec⊢
 by_cases h:i<N
 ·rw[af (ii (by omega)),zu hop hn hv,aa]
  dsimp only
  rw[bu (by omega) (by omega)]
  exact hrec _ ⟨i+1,_,_,by omega,fB ..,by
   rw[show N-i=N-(i+1)+1 by omega,zn]at he
   exact he,rfl⟩ (by dsimp only;omega)
 ·obtain rfl:i=N:=by omega
  rw[am (gF (by omega))]
  rw[Nat.sub_self]at he
  refine Ret.some ?_
  rw[←he]
  rfl
theorem Eb (x:Int):dg .u64 x 1=x*2%18446744073709551616:=yP x 1 (by decide)
theorem Bw (x:Int):cf .u64 x 63=x/9223372036854775808:=qP x 63 (by decide)
theorem zq {a b:Nat}(ha:a<18446744073709551616)(hb:b<18446744073709551616):
  dN (((a:Int),((b:Int),())),())=some ((((a*b/18446744073709551616:Nat):Int),(((a*b%18446744073709551616:Nat):Int),())),()):=by
 unfold dN
 dsimp only
 refine(Ret.iter (fun x=>∃(k:Nat) (h l:Int),k≤64∧WideInv a b k h l∧x=(((a:Int),((b:Int),(h,(l,(((k:Int)-1),()))))),())) (fun x=>(x.1.2.2.2.2.1+1).toNat) ?_ F _ ⟨64,0,0,by omega,WideInv.init hb,rfl⟩ (by unfold F;dsimp only;omega)).eq
 rintro _ rec ⟨k,h,l,hk,hw,rfl⟩ hrec
 dsimp only at hrec⊢
 cases k with
 |zero=>
  rw[am (jI (by omega))]
  obtain⟨e1,e2⟩:=hw.fin
  exact Ret.some (by rw[e1,e2])
 |succ k=>
  have ek:((k+1:Nat):Int)-1=(k:Int):=by omega
  rw[ek]at hrec⊢
  have hwk:ah .u64 (k:Int)=(k:Int):=co (by omega) (by omega)
  rw[af (eY (by omega)),hwk,af (eY (by omega)),zR (by omega),dL (Int.natCast_nonneg _),Eb,Eb,Bw]
  have hbit:((b/2^k:Nat):Int)%2=((b/2^k%2:Nat):Int):=(Int.natCast_emod _ 2).symm
  rw[hbit,Ap,Ap,Ap]
  have hx:(h*2%18446744073709551616+l/9223372036854775808)%18446744073709551616=(h*2+l/9223372036854775808)%18446744073709551616:=by omega
  have hx1:((h*2%18446744073709551616+l/9223372036854775808)%18446744073709551616+1)%18446744073709551616=((h*2+l/9223372036854775808)%18446744073709551616+1)%18446744073709551616:=by omega
  refine Ret.bnd (Q:=fun y=>∃h' l',WideInv a b k h' l'∧y=Sum.inl (((a:Int),((b:Int),(h',(l',((k:Int),()))))),())) ?_ ?_
  ·rcases oT b k with h0|h0
   ·rw[h0,am (by rfl)]
    exact Ret.some ⟨_,_,hw.step0 ha hb h0,by rw[hx]⟩
   ·rw[h0,af (by rfl)]
    have hst:=hw.step1 ha hb h0 (h':=(h*2+l/9223372036854775808)%18446744073709551616) (l':=l*2%18446744073709551616) rfl rfl
    refine Ret.bnd (Q:=fun y=>∃h' l',WideInv a b k h' l'∧y=Sum.inl (((a:Int),((b:Int),(h',(l',((k:Int),()))))),())) ?_ (by rintro _ ⟨h',l',g,rfl⟩;rw[ag];exact Ret.some ⟨h',l',g,rfl⟩)
    by_cases hc:(l*2%18446744073709551616+(a:Int))%18446744073709551616<l*2%18446744073709551616
    ·rw[af (ii hc)]
     exact Ret.some ⟨_,_,hst.1 hc,by rw[hx1]⟩
    ·rw[am (gF hc)]
     exact Ret.some ⟨_,_,hst.2 hc,by rw[hx]⟩
  rintro _ ⟨h',l',hw',rfl⟩
  rw[ag]
  dsimp only
  rw[ck (by omega) (by omega)]
  exact hrec _ ⟨k,h',l',by omega,hw',rfl⟩ (by dsimp only;omega)
theorem QuoInv.q_lt {hi lo d k q r:Nat}(H:QuoInv hi lo d k q r)(h:hi<d)(hl:lo<18446744073709551616)(hk:k≤64):q<2^(64-k):=by
 have hP:2^k*2^(64-k)=18446744073709551616:=by rw[←Nat.pow_add,show k+(64-k)=64 by omega]
 have h1:lo/2^k<2^(64-k):=Nat.div_lt_of_lt_mul (by rw[hP];exact hl)
 have h2:(hi+1)*2^(64-k)≤d*2^(64-k):=Nat.mul_le_mul_right _ h
 rw[Nat.add_mul,Nat.one_mul]at h2
 have h3:=H.e
 refine Nat.lt_of_mul_lt_mul_right (a:=d) ?_
 rw[Nat.mul_comm (2^(64-k)) d]
 generalize hi*2^(64-k)=A at*
 generalize d*2^(64-k)=B at*
 generalize q*d=C at*
 omega
theorem Cq {r b d r2:Int}(r0:0≤r)(hr:r<d)(hd:d<18446744073709551616)(b0:b=0∨b=1)(e:r2=(r*2%18446744073709551616+b)%18446744073709551616):
  (r/9223372036854775808=1→d≤r*2+b)∧(¬r/9223372036854775808=1→(d≤r2↔d≤r*2+b))∧(d≤r*2+b→(r2-d)%18446744073709551616=r*2+b-d)∧(r*2+b<d→r2=r*2+b):=by
 refine⟨?_,?_,?_,?_⟩<;>omega
theorem uB {hi lo d:Nat}(h:hi<d)(hd:d<18446744073709551616)(hlo:lo<18446744073709551616):
  eQ (((hi:Int),((lo:Int),((d:Int),()))),())=some (((((hi*18446744073709551616+lo)/d:Nat):Int),((((hi*18446744073709551616+lo)%d:Nat):Int),())),()):=by
 unfold eQ
 dsimp only
 refine(Ret.iter (fun x=>∃k q r:Nat,k≤64∧QuoInv hi lo d k q r∧x=(((lo:Int),((d:Int),((q:Int),((r:Int),(((k:Int)-1),()))))),())) (fun x=>(x.1.2.2.2.2.1+1).toNat) ?_ F _ ⟨64,0,hi,by omega,QuoInv.init h hlo,rfl⟩ (by unfold F;dsimp only;omega)).eq
 rintro _ rec ⟨k,q,r,hk,hw,rfl⟩ hrec
 dsimp only at hrec⊢
 cases k with
 |zero=>
  rw[am (jI (by omega))]
  obtain⟨e1,e2⟩:=hw.fin
  exact Ret.some (by rw[e1,e2])
 |succ k=>
  have ek:((k+1:Nat):Int)-1=(k:Int):=by omega
  rw[ek]at hrec⊢
  have hwk:ah .u64 (k:Int)=(k:Int):=co (by omega) (by omega)
  obtain⟨st0,st1⟩:=hw.step (by omega)
  have hrd:=hw.lt
  have hbit:((lo/2^k:Nat):Int)%2=((lo/2^k%2:Nat):Int):=(Int.natCast_emod _ 2).symm
  obtain⟨b,hb⟩:∃b,b=lo/2^k%2:=⟨_,rfl⟩
  rw[←hb]at st0 st1 hbit
  have hb01:b=0∨b=1:=by rw[hb];exact oT lo k
  rw[af (eY (by omega)),hwk,af (eY (by omega)),zR (by omega),dL (Int.natCast_nonneg _),hbit,Bw,Eb,Eb,Ap,Ap,subU]
  obtain⟨r2,hr2⟩:∃r2:Int,r2=((r:Int)*2%18446744073709551616+(b:Int))%18446744073709551616:=⟨_,rfl⟩
  rw[←hr2]
  obtain⟨a1,a2,a3,a4⟩:=Cq (r:=(r:Int)) (b:=(b:Int)) (d:=(d:Int)) (by omega) (by omega) (by omega) (by omega) hr2
  have hcond:br (eqI ((r:Int)/9223372036854775808) 1) (some true) (some (leI (d:Int) r2))=some (decide (d≤r*2+b)):=by
   by_cases g:(r:Int)/9223372036854775808=1
   ·have:=a1 g
    rw[bc g,aH,decide_eq_true (by omega)]
   ·have:=a2 g
    rw[aq g,aj]
    by_cases g2:d≤r*2+b
    ·rw[decide_eq_true g2,eY (this.2 (by omega))]
    ·rw[decide_eq_false g2,jI (fun z=>g2 (by have:=this.1 z;omega))]
  rw[hcond,aa]
  have hp:2^(64-k)≤2^64:=Nat.pow_le_pow_right (by decide) (by omega)
  refine Ret.bnd (Q:=fun y=>∃q' r':Nat,QuoInv hi lo d k q' r'∧y=Sum.inl (((lo:Int),((d:Int),((q':Int),((r':Int),((k:Int),()))))),())) ?_ ?_
  ·by_cases g2:d≤r*2+b
   ·have hq:=(st1 g2).q_lt h hlo (by omega)
    rw[decide_eq_true g2,aH,a3 (by omega)]
    refine Ret.some ⟨q*2+1,r*2+b-d,st1 g2,?_⟩
    rw[show((q:Int)*2%18446744073709551616+1)%18446744073709551616=((q*2+1:Nat):Int)by omega,show(r:Int)*2+(b:Int)-(d:Int)=((r*2+b-d:Nat):Int)by omega]
   ·have hq:=(st0 (by omega)).q_lt h hlo (by omega)
    rw[decide_eq_false g2,aj,a4 (by omega)]
    refine Ret.some ⟨q*2,r*2+b,st0 (by omega),?_⟩
    rw[show((q:Int)*2%18446744073709551616)=((q*2:Nat):Int)by omega,show(r:Int)*2+(b:Int)=((r*2+b:Nat):Int)by omega]
  rintro _ ⟨q',r',hw',rfl⟩
  rw[ag]
  dsimp only
  rw[ck (by omega) (by omega)]
  exact hrec _ ⟨k,q',r',by omega,hw',rfl⟩ (by dsimp only;omega)
theorem inotU {h:Int}(h0:0≤h)(h1:h<18446744073709551616):vR .u64 h=18446744073709551615-h:=by
 unfold vR qa
 rw[eD]
 have e:(BitVec.ofInt IntKind.u64.bits (if IntKind.u64.signed=true then -1 else IntKind.u64.max)^^^BitVec.ofInt IntKind.u64.bits h).toNat=(18446744073709551615-h).toNat:=by
  have e1:(BitVec.ofInt IntKind.u64.bits (if IntKind.u64.signed=true then -1 else IntKind.u64.max))=BitVec.allOnes 64:=by rfl
  have e2:(BitVec.ofInt 64 h).toNat=h.toNat:=by rw[BitVec.toNat_ofInt];omega
  rw[e1]
  show(BitVec.allOnes 64 ^^^BitVec.ofInt 64 h).toNat=_
  rw[BitVec.allOnes_xor,BitVec.toNat_not,e2]
  omega
 rw[e];omega
theorem oc {v:Int}(hv:I64 v):dh ((v,()),())=some (((v.natAbs:Nat):Int),())∧v.natAbs<18446744073709551616:=by
 unfold I64 at hv
 refine⟨?_,by omega⟩
 unfold dh
 dsimp only
 have hu:=bi v
 rw[show(2:Int)^64=18446744073709551616 from rfl]at hu
 rw[dU,hu]
 by_cases h:v<0
 ·rw[ii h,aH,subU]
  congr 2;omega
 ·rw[gF h,aj]
  congr 2;omega
theorem neg128 {h l p:Int}(h0:0≤h)(l0:0≤l)(l1:l<18446744073709551616)(h1:h<18446744073709551616)(e:h*18446744073709551616+l=p):
  ((-l)%18446744073709551616=0→(18446744073709551615-h+1)%18446744073709551616*18446744073709551616+(-l)%18446744073709551616=(-p)%340282366920938463463374607431768211456)∧
  (¬(-l)%18446744073709551616=0→(18446744073709551615-h)*18446744073709551616+(-l)%18446744073709551616=(-p)%340282366920938463463374607431768211456):=by
 constructor<;>intro g<;>omega
theorem sT {X Y:Int}(sg:Bool)(hX:I64 X)(hY:I64 Y):∃h l:Int,eg ((X,(Y,(sg,()))),())=some ((h,(l,())),())∧0≤h∧h<18446744073709551616∧0≤l∧l<18446744073709551616∧
  h*18446744073709551616+l=(if sg=true then X*Y else((uns X:Nat):Int)*((uns Y:Nat):Int))%340282366920938463463374607431768211456:=by
 have hwide:∀a b:Nat,a<18446744073709551616→b<18446744073709551616→∃h l:Int,dN (((a:Int),((b:Int),())),())=some ((h,(l,())),())∧0≤h∧h<18446744073709551616∧0≤l∧l<18446744073709551616∧h*18446744073709551616+l=(a:Int)*(b:Int):=fun a b ha hb=>by
  refine⟨_,_,zq ha hb,?_⟩
  have hp:a*b<18446744073709551616*18446744073709551616:=Nat.mul_lt_mul'' ha hb
  have e:(a:Int)*(b:Int)=((a*b:Nat):Int):=by simp
  have hp':((a*b:Nat):Int)<340282366920938463463374607431768211456:=Int.ofNat_lt.2 hp
  rw[e,Int.natCast_ediv,Int.natCast_emod]
  have h0:0≤((a*b:Nat):Int):=Int.natCast_nonneg _
  generalize ((a*b:Nat):Int)=p at*
  show 0≤p/18446744073709551616∧p/18446744073709551616<18446744073709551616∧0≤p%18446744073709551616∧p%18446744073709551616<18446744073709551616∧p/18446744073709551616*18446744073709551616+p%18446744073709551616=p
  omega
 have hbig:∀h l p:Int,0≤h→h<18446744073709551616→0≤l→l<18446744073709551616→h*18446744073709551616+l=p→h*18446744073709551616+l=p%340282366920938463463374607431768211456:=fun h l p a b c d e=>by omega
 unfold eg
 dsimp only
 cases sg with
 |false=>
  obtain⟨h,l,e,a1,a2,a3,a4,a5⟩:=hwide _ _ (dV X) (dV Y)
  rw[show aX false=true from rfl,aH,dU,dU,e,aa,if_neg (by decide)]
  exact⟨h,l,rfl,a1,a2,a3,a4,hbig _ _ _ a1 a2 a3 a4 a5⟩
 |true=>
  obtain⟨s1,l1⟩:=oc hX
  obtain⟨s2,l2⟩:=oc hY
  obtain⟨h,l,e,a1,a2,a3,a4,a5⟩:=hwide _ _ l1 l2
  rw[show aX true=false from rfl,aj,s1,aa,s2,aa,if_pos rfl]
  dsimp only
  rw[e,aa]
  dsimp only
  have hne:aX (eqB (ltI X 0) (ltI Y 0))=(decide (X<0) != decide (Y<0)):=by
   unfold ltI
   cases decide (X<0)<;>cases decide (Y<0)<;>rfl
  rw[hne]
  have habs:∀Z:Int,(Z.natAbs:Int)=if Z<0 then -Z else Z:=fun Z=>by split<;>omega
  rw[habs X,habs Y]at a5
  by_cases hd:(decide (X<0) != decide (Y<0))=true
  ·rw[hd,aH,subU,inotU a1 a2,Ap]
   have hp:h*18446744073709551616+l= -(X*Y):=by
    rw[a5]
    by_cases x0:X<0
    ·by_cases y0:Y<0
     ·rw[decide_eq_true x0,decide_eq_true y0]at hd;cases hd
     ·rw[if_pos x0,if_neg y0,Int.neg_mul]
    ·by_cases y0:Y<0
     ·rw[if_neg x0,if_pos y0,Int.mul_neg]
     ·rw[decide_eq_false x0,decide_eq_false y0]at hd;cases hd
   obtain⟨n1,n2⟩:=neg128 a1 a3 a4 a2 hp
   rw[Int.neg_neg]at n1 n2
   rw[Int.zero_sub]
   by_cases hz:(-l)%18446744073709551616=0
   ·rw[bc hz,aH,aa,ag,aa,ag]
    exact⟨_,_,rfl,by omega,by omega,by omega,by omega,n1 hz⟩
   ·rw[aq hz,aj,aa,ag,aa,ag]
    exact⟨_,_,rfl,by omega,by omega,by omega,by omega,n2 hz⟩
  ·rw[Bool.eq_false_iff.2 hd,aj,aa,ag]
   have hp:h*18446744073709551616+l=X*Y:=by
    rw[a5]
    by_cases x0:X<0
    ·by_cases y0:Y<0
     ·rw[if_pos x0,if_pos y0,Int.neg_mul_neg]
     ·rw[decide_eq_true x0,decide_eq_false y0]at hd;exact absurd rfl hd
    ·by_cases y0:Y<0
     ·rw[decide_eq_false x0,decide_eq_true y0]at hd;exact absurd rfl hd
     ·rw[if_neg x0,if_neg y0]
   exact⟨h,l,rfl,a1,a2,a3,a4,hbig _ _ _ a1 a2 a3 a4 hp⟩
theorem yd {sg:Bool}{n:Nat}(hn:b8 (n:Int)=true){a:Int}(ha:I64 a):I64 (rA sg n a):=by
 obtain⟨h1,h8⟩:=dq hn
 unfold rA
 split
 ·exact gy _ (by omega) _
 ·exact dX ha hn
theorem DS {sg:Bool}{n:Nat}(hn:b8 (n:Int)=true){a b:Int}(ha:I64 a)(hb:I64 b):
  (if sg=true then rA sg n a*rA sg n b else((uns (rA sg n a):Nat):Int)*((uns (rA sg n b):Nat):Int))=mn sg n a*mn sg n b:=by
 unfold rA mn
 cases sg with
 |true=>simp only[if_true]
 |false=>
  rw[if_neg (by decide),if_neg (by decide),if_neg (by decide),if_neg (by decide),if_neg (by decide),cg ha hn,cg hb hn]
theorem mw {op a b f:Int}{n:Nat}(hn:b8 (n:Int)=true)(ha:I64 a)(hb:I64 b):
  cC ((op,((n:Int),(a,(b,(f,()))))),())=some (((qm op n a b f).1,((qm op n a b f).2.1,((qm op n a b f).2.2,()))),()):=by
 obtain⟨h1,h8⟩:=dq hn
 unfold cC
 dsimp only
 obtain⟨sg,hsg⟩:∃sg:Bool,sg=decide (op≠13):=⟨_,rfl⟩
 have heq:aX (eqI op 13)=sg:=by
  rw[hsg,neI,Bool.eq_iff_iff,bne_iff_ne,decide_eq_true_eq]
 have hsx:∀v,aT ((v,((n:Int),())),())=some (sx (8*n-1) v,()):=fun v=>by
  rw[jk _ _ (by omega) (by omega),show(8*(n:Int)-1).toNat=8*n-1 by omega]
 rw[heq,bn ha n hn,bn hb n hn,aa,aa]
 refine(Ret.bnd (Q:=fun y=>y=Sum.inl (((n:Int),(f,(sg,(rA sg n a,(rA sg n b,()))))),())) ?_ ?_).eq
 ·cases sg with
  |true=>
   rw[aH,hsx,hsx,aa,aa]
   exact Ret.some rfl
  |false=>
   rw[aj]
   exact Ret.some rfl
 rintro _ rfl
 rw[ag]
 dsimp only
 obtain⟨h,l,e,a1,a2,a3,a4,a5⟩:=sT sg (yd (sg:=sg) hn ha) (yd (sg:=sg) hn hb)
 rw[DS hn ha hb]at a5
 rw[e,aa]
 dsimp only
 have hul:∀z:Int,0≤z→z<18446744073709551616→((uns (ah .i64 z):Nat):Int)=z:=fun z z0 z1=>by
  unfold ah
  rw[bP,bi,show(2:Int)^64=18446744073709551616 from rfl];omega
 have hlow:bO (ah .i64 l) n=uO sg n a b:=by
  refine oh hn (ar _) ?_
  rw[hul l a3 a4]
  generalize mn sg n a*mn sg n b=p at*
  rcases vT hn with rfl|rfl|rfl|rfl
  ·rw[show(2:Int)^(8*1)=256 from rfl];omega
  ·rw[show(2:Int)^(8*2)=65536 from rfl];omega
  ·rw[show(2:Int)^(8*4)=4294967296 from rfl];omega
  ·rw[show(2:Int)^(8*8)=18446744073709551616 from rfl];omega
 rw[bn (gm l) n hn,aa,hlow]
 dsimp only
 refine Ret.bnd (Q:=fun y=>y=Sum.inl (((n:Int),(f,(sg,(uO sg n a b,(mN sg n a b,()))))),())) ?_ ?_
 ·by_cases h8':n=8
  ·subst h8'
   rw[gF (by omega),aj]
   have hh:ah .i64 h=mN sg 8 a b:=by
    unfold mN ki ah
    refine kF ?_
    rw[show(2:Int)^(8*8)=18446744073709551616 from rfl]
    generalize mn sg 8 a*mn sg 8 b=p at*
    omega
   rw[hh]
   exact Ret.some rfl
  ·have h3:n=1∨n=2∨n=4:=by rcases vT hn with h|h|h|h<;>omega
   rw[ii (by omega),aH,eu (a:=8) (by omega) (by omega),co (by omega) (by omega),af (eY (by omega)),show 8*(n:Int)=((8*n:Nat):Int)by omega,qP _ _ (by omega),bn (gm _) n hn,aa]
   have hh:bO (ah .i64 (l/2^(8*n))) n=mN sg n a b:=by
    refine oh hn (ar _) ?_
    have hd0:0≤l/2^(8*n):=Int.ediv_nonneg a3 (Int.le_of_lt (Int.pow_pos (by decide)))
    have hd1:l/2^(8*n)<18446744073709551616:=Int.lt_of_le_of_lt (Int.ediv_le_self _ a3) a4
    rw[hul _ hd0 hd1]
    generalize mn sg n a*mn sg n b=p at*
    rcases h3 with rfl|rfl|rfl
    ·rw[show(2:Int)^(8*1)=256 from rfl];omega
    ·rw[show(2:Int)^(8*2)=65536 from rfl];omega
    ·rw[show(2:Int)^(8*4)=4294967296 from rfl];omega
   rw[hh]
   exact Ret.some rfl
 rintro _ rfl
 rw[ag]
 dsimp only
 refine Ret.bnd (Q:=fun y=>y=Sum.inl ((f,(uO sg n a b,(mN sg n a b,(BV sg n a b,())))),())) ?_ ?_
 ·unfold BV
  cases sg with
  |true=>
   rw[aH,hsx,hsx,aa,aa,neI]
   exact Ret.some rfl
  |false=>
   rw[aj,neI]
   exact Ret.some rfl
 rintro _ rfl
 rw[ag]
 dsimp only
 rw[jU,aa]
 refine Ret.some ?_
 unfold qm
 rw[←hsg]
theorem orU {a b:Nat}(ha:a<2^64)(hb:b<2^64):ior .u64 (a:Int) (b:Int)=((a|||b:Nat):Int):=by
 unfold ior
 rw[eD]
 have hh:∀k:Nat,k<2^64→(BitVec.ofInt 64 (k:Int)).toNat=k:=fun k hk=>by
  rw[BitVec.toNat_ofInt]
  have:((k:Int)%((2^64:Nat):Int))=((k%2^64:Nat):Int):=(Int.natCast_emod ..).symm
  rw[this,Int.toNat_natCast,Nat.mod_eq_of_lt hk]
 have e1:(BitVec.ofInt IntKind.u64.bits (a:Int)|||BitVec.ofInt IntKind.u64.bits (b:Int)).toNat=a|||b:=by
  rw[BitVec.toNat_or]
  show(BitVec.ofInt 64 (a:Int)).toNat|||(BitVec.ofInt 64 (b:Int)).toNat=_
  rw[hh _ ha,hh _ hb]
 rw[e1]
 have:a|||b<2^64:=Nat.or_lt_two_pow ha hb
 have h2:((a|||b:Nat):Int)<((2^64:Nat):Int):=Int.ofNat_lt.2 this
 exact Int.emod_eq_of_lt (by omega) h2
theorem joinU {n:Nat}(hn:n=1∨n=2∨n=4){hi lo:Int}(hh:I64 hi)(hl:I64 lo):ior .u64 (dg .u64 (ah .u64 (bO hi n)) ((8*n:Nat):Int)) (ah .u64 (bO lo n))=((mG n hi lo:Nat):Int):=by
 have hs:b8 (n:Int)=true:=by rcases hn with rfl|rfl|rfl<;>rfl
 have hlt:=ka n hi lo
 have h32:2^(16*n)≤2^64:=Nat.pow_le_pow_right (by decide) (by omega)
 have hN:mG n hi lo<2^64:=Nat.lt_of_lt_of_le hlt h32
 have hH:bW hi n*2^(8*n)<2^64:=Nat.lt_of_le_of_lt (Nat.le_add_right _ _) hN
 have hL:bW lo n<2^64:=Nat.lt_of_le_of_lt (Nat.le_add_left _ _) hN
 rw[dU,dU,cg hh hs,cg hl hs,Gk (by omega),Nat.mod_eq_of_lt hH,orU hH hL]
 unfold mG
 rw[Nat.mul_comm,Nat.two_pow_add_eq_or_of_lt (fL lo n)]
theorem zr {n:Nat}{hi lo:Int}(hn:b8 (n:Int)=true)(hh:I64 hi)(hl:I64 lo)(sg:Bool):
  ∃h l:Int,gd (((n:Int),(hi,(lo,(sg,())))),())=some ((h,(l,())),())∧0≤h∧h<18446744073709551616∧0≤l∧l<18446744073709551616∧
   h*18446744073709551616+l=(if ne sg n hi lo<0 then ne sg n hi lo+340282366920938463463374607431768211456 else ne sg n hi lo):=by
 obtain⟨h1,h8⟩:=dq hn
 unfold gd
 dsimp only
 by_cases h8':n=8
 ·subst h8'
  rw[bc (by rfl),aH,dU,dU]
  have g1:=dV hi
  have g2:=dV lo
  refine⟨_,_,rfl,by omega,by omega,by omega,by omega,?_⟩
  have hN:=AI hi lo
  unfold ne
  rw[show(2:Nat)^(16*8-1)=170141183460469231731687303715884105728 from rfl,show(2:Int)^(16*8)=340282366920938463463374607431768211456 from rfl]
  have hlt:mG 8 hi lo<340282366920938463463374607431768211456:=ka 8 hi lo
  by_cases hc:sg=true∧170141183460469231731687303715884105728≤mG 8 hi lo
  ·rw[if_pos hc];omega
  ·rw[if_neg hc];omega
 ·have h3:n=1∨n=2∨n=4:=by rcases vT hn with h|h|h|h<;>omega
  have e8:bE .i64 8 (n:Int)=((8*n:Nat):Int):=by rw[eu (a:=8) (by omega) (by omega)];omega
  have e16:bE .i64 16 (n:Int)=((16*n:Nat):Int):=by rw[eu (a:=16) (by omega) (by omega)];omega
  have w8:ah .u64 ((8*n:Nat):Int)=((8*n:Nat):Int):=co (by omega) (by omega)
  have w16:ah .u64 ((16*n:Nat):Int)=((16*n:Nat):Int):=co (by omega) (by omega)
  have e7:aV .i64 ((8*n:Nat):Int) 1=((8*n-1:Nat):Int):=by rw[ck (by omega) (by omega)];omega
  have hlt:=ka n hi lo
  have h32:2^(16*n)≤2^64:=Nat.pow_le_pow_right (by decide) (by omega)
  have hN:mG n hi lo<2^64:=Nat.lt_of_lt_of_le hlt h32
  rw[aq (show(n:Int)≠8 by omega),aj,bn hh n hn,aa,e8,w8,af (eY (by omega)),bn hl n hn,aa]
  dsimp only
  rw[joinU h3 hh hl,e7,Ax _ _ (by omega),aa]
  dsimp only
  rw[Dh]
  have hc:br sg (some (kL hi (8*n-1))) (some false)=some (decide (sg=true∧2^(16*n-1)≤mG n hi lo)):=by
   cases sg with
   |false=>rfl
   |true=>
    rw[aH,i7 (n:=n) (by omega)]
    have e:(bW hi n/2^(8*n-1)%2=1)↔2^(16*n-1)≤mG n hi lo:=by
     have a1:=fL hi n
     have a2:=fL lo n
     unfold mG
     rcases h3 with rfl|rfl|rfl
     ·rw[show(2:Nat)^(8*1)=256 from rfl]at*
      rw[show(2:Nat)^(8*1-1)=128 from rfl,show(2:Nat)^(16*1-1)=32768 from rfl];omega
     ·rw[show(2:Nat)^(8*2)=65536 from rfl]at*
      rw[show(2:Nat)^(8*2-1)=32768 from rfl,show(2:Nat)^(16*2-1)=2147483648 from rfl];omega
     ·rw[show(2:Nat)^(8*4)=4294967296 from rfl]at*
      rw[show(2:Nat)^(8*4-1)=2147483648 from rfl,show(2:Nat)^(16*4-1)=9223372036854775808 from rfl];omega
    simp only[e,true_and]
  rw[hc,aa]
  unfold ne
  by_cases hs:sg=true∧2^(16*n-1)≤mG n hi lo
  ·rw[decide_eq_true hs,aH,if_pos hs]
   have hI16:(2:Int)^(16*n)=((2^(16*n):Nat):Int):=(jF _).symm
   rw[hI16]
   obtain⟨N,hNe⟩:∃N,N=mG n hi lo:=⟨_,rfl⟩
   rw[←hNe]at hlt hN hs⊢
   have hneg:(N:Int)-((2^(16*n):Nat):Int)<0:=by omega
   rw[if_pos hneg]
   refine Exists.elim (p:=fun l:Nat=>(br (ltI (n:Int) 4) (br (leI 0 (ah .u64 (bE .i64 16 (n:Int)))) (some (Sum.inl (((ior .u64 (N:Int) (dg .u64 18446744073709551615 (ah .u64 (bE .i64 16 (n:Int))))),()),()):Sum ((Int×Unit)×Unit) ((Int×Int×Unit)×Unit))) none) (some (Sum.inl (((N:Int),()),()))))=some (Sum.inl (((l:Int),()),()))∧(l:Int)=(N:Int)-((2^(16*n):Nat):Int)+18446744073709551616) ?_ ?_
   ·by_cases h4:n=4
    ·subst h4
     rw[gF (by decide),aj]
     refine⟨N,rfl,?_⟩
     rw[show((2^(16*4):Nat):Int)=18446744073709551616 from rfl];omega
    ·have h12:n=1∨n=2:=by omega
     rw[ii (by omega),aH,e16,w16,af (eY (by omega))]
     have hm:dg .u64 18446744073709551615 ((16*n:Nat):Int)=((2^64-2^(16*n):Nat):Int):=by
      have:dg .u64 ((18446744073709551615:Nat):Int) ((16*n:Nat):Int)=_:=Gk (a:=18446744073709551615) (s:=16*n) (by omega)
      rw[show(18446744073709551615:Int)=((18446744073709551615:Nat):Int)from rfl,this]
      rcases h12 with rfl|rfl<;>decide +kernel
     have hor:N|||(2^64-2^(16*n))=N+(2^64-2^(16*n)):=by
      obtain⟨t,ht⟩:∃t,2^64-2^(16*n)=2^(16*n)*t:=⟨2^(64-16*n)-1,by rw[Nat.mul_sub,←Nat.pow_add,show 16*n+(64-16*n)=64 by omega,Nat.mul_one]⟩
      rw[ht,Nat.or_comm,←Nat.two_pow_add_eq_or_of_lt hlt,Nat.add_comm]
     rw[hm,orU hN (by have:=Nat.two_pow_pos (16*n);omega),hor]
     refine⟨_,rfl,?_⟩
     have h64:(2:Nat)^64=18446744073709551616:=rfl
     rw[h64]at h32⊢
     generalize 2^(16*n)=P at*
     omega
   ·rintro l ⟨el,hl2⟩
    rw[el,aa,ag]
    have hlo0:0≤(l:Int):=by omega
    refine⟨18446744073709551615,(l:Int),rfl,by omega,by omega,by omega,?_,?_⟩
    ·omega
    ·omega
  ·rw[decide_eq_false hs,aj,if_neg hs,if_neg (by omega)]
   refine⟨0,_,rfl,by omega,by omega,by omega,?_,by omega⟩
   have:((mG n hi lo:Nat):Int)<((2^64:Nat):Int):=Int.ofNat_lt.2 hN
   exact this
set_option linter.unusedVariables false
theorem negA {h l p:Int}(h0:0≤h)(l0:0≤l)(l1:l<18446744073709551616)(h1:h<18446744073709551616)(e:h*18446744073709551616+l=p+340282366920938463463374607431768211456)(hp: -170141183460469231731687303715884105728≤p)(hp0:p<0):
  ((-l)%18446744073709551616=0→(18446744073709551615-h+1)%18446744073709551616*18446744073709551616+(-l)%18446744073709551616= -p)∧
  (¬(-l)%18446744073709551616=0→(18446744073709551615-h)*18446744073709551616+(-l)%18446744073709551616= -p):=by
 constructor<;>intro g<;>omega
theorem topH {h l X:Int}(h0:0≤h)(h1:h<18446744073709551616)(l0:0≤l)(l1:l<18446744073709551616)(hX: -170141183460469231731687303715884105728≤X)(hX2:X<170141183460469231731687303715884105728)
  (e:h*18446744073709551616+l=(if X<0 then X+340282366920938463463374607431768211456 else X)):h/9223372036854775808=1↔X<0:=by
 split at e<;>omega
theorem DK {n:Nat}(hn:b8 (n:Int)=true)(hi lo:Int):ne true n hi lo<170141183460469231731687303715884105728:=by
 have hlt:=ka n hi lo
 unfold ne
 generalize mG n hi lo=N at*
 rcases vT hn with rfl|rfl|rfl|rfl
 ·rw[show(2:Nat)^(16*1)=65536 from rfl]at hlt
  rw[show(2:Nat)^(16*1-1)=32768 from rfl,show(2:Int)^(16*1)=65536 from rfl]
  split<;>omega
 ·rw[show(2:Nat)^(16*2)=4294967296 from rfl]at hlt
  rw[show(2:Nat)^(16*2-1)=2147483648 from rfl,show(2:Int)^(16*2)=4294967296 from rfl]
  split<;>omega
 ·rw[show(2:Nat)^(16*4)=18446744073709551616 from rfl]at hlt
  rw[show(2:Nat)^(16*4-1)=9223372036854775808 from rfl,show(2:Int)^(16*4)=18446744073709551616 from rfl]
  split<;>omega
 ·rw[show(2:Nat)^(16*8)=340282366920938463463374607431768211456 from rfl]at hlt
  rw[show(2:Nat)^(16*8-1)=170141183460469231731687303715884105728 from rfl,show(2:Int)^(16*8)=340282366920938463463374607431768211456 from rfl]
  split
  ·omega
  ·rename_i g
   have:¬170141183460469231731687303715884105728≤N:=fun z=>g ⟨rfl,z⟩
   omega
theorem BX {n:Nat}(hn:b8 (n:Int)=true)(t:Bool){q:Nat}(hq:q<18446744073709551616):bO (ah .i64 (if t=true then aV .u64 0 (q:Int)else(q:Int))) n=ki n (negI t q):=by
 have h8:=(dq hn).2
 refine oh hn (gm _) ?_
 unfold ah negI
 rw[bP,bi,Int.emod_emod_of_dvd _ (by have:=AQ h8;exact this)]
 cases t with
 |false=>rw[if_neg (by decide),if_neg (by decide)]
 |true=>
  rw[if_pos rfl,if_pos rfl,subU,Int.emod_emod_of_dvd _ (AQ h8),Int.zero_sub]
theorem uF {op hi lo d:Int}{n:Nat}(hn:b8 (n:Int)=true)(hh:I64 hi)(hl:I64 lo)(hd:I64 d):
  ∃q r:Int,dB ((op,((n:Int),(hi,(lo,(d,()))))),())=some ((q,(r,((su op n hi lo d).2.2,()))),())∧((su op n hi lo d).2.2=true→q=(su op n hi lo d).1∧r=(su op n hi lo d).2.1):=by
 obtain⟨h1,h8⟩:=dq hn
 obtain⟨sg,hsg⟩:∃sg:Bool,sg=decide (op=16):=⟨_,rfl⟩
 have heq:eqI op 16=sg:=by rw[hsg];rfl
 suffices hsuf:Ret (dB ((op,((n:Int),(hi,(lo,(d,()))))),())) (fun y=>∃q r:Int,y=((q,(r,((su op n hi lo d).2.2,()))),())∧((su op n hi lo d).2.2=true→q=(su op n hi lo d).1∧r=(su op n hi lo d).2.1))by
  obtain⟨y,e,q,r,rfl,g⟩:=hsuf
  exact⟨q,r,e,g⟩
 unfold dB
 dsimp only
 rw[heq]
 obtain⟨h,l,e1,a1,a2,a3,a4,hX⟩:=zr hn hh hl sg
 have hxb:=AJ (sg:=sg) hn hi lo
 have hxt:sg=true→ne sg n hi lo<170141183460469231731687303715884105728:=fun g=>by rw[g];exact DK hn hi lo
 unfold su
 rw[←hsg]
 obtain⟨X,hXe⟩:∃X,X=ne sg n hi lo:=⟨_,rfl⟩
 obtain⟨D,hDe⟩:∃D,D=mn sg n d:=⟨_,rfl⟩
 have hDb:=FU sg hn d
 rw[←hXe]at hX hxb hxt
 rw[←hDe]at hDb
 rw[←hXe,←hDe]
 obtain⟨q,hq⟩:∃q,q=X.natAbs/D.natAbs:=⟨_,rfl⟩
 obtain⟨r,hr⟩:∃r,r=X.natAbs%D.natAbs:=⟨_,rfl⟩
 rw[←hq,←hr,e1,aa,bn hd n hn,aa]
 dsimp only
 have hsx:aT ((d,((n:Int),())),())=some (sx (8*n-1) d,()):=by
  rw[jk _ _ (by omega) (by omega),show(8*(n:Int)-1).toNat=8*n-1 by omega]
 have hsxI:=gy (8*n-1) (by omega) d
 refine Ret.bnd (Q:=fun y=>y=Sum.inl (((n:Int),(sg,(h,(l,(((D.natAbs:Nat):Int),(decide (X<0),(Ae X D,()))))))),())∧D.natAbs<18446744073709551616) ?_ ?_
 ·cases sg with
  |true=>
   obtain⟨z1,z2⟩:=oc hsxI
   rw[aH,hsx,aa]
   rw[z1,aa,aa]
   have hD:D=sx (8*n-1) d:=by rw[hDe];exact if_pos rfl
   rw[Bw]
   have ht:=topH a1 a2 a3 a4 hxb.1 (hxt rfl) hX
   have e2:eqI (h/9223372036854775808) 1=decide (X<0):=by
    unfold eqI;rw[Bool.eq_iff_iff,decide_eq_true_eq,decide_eq_true_eq];exact ht
   have e3:aX (eqB (decide (X<0)) (ltI (sx (8*n-1) d) 0))=Ae X D:=by
    rw[hD]
    unfold Ae ltI
    cases decide (X<0)<;>cases decide (sx (8*n-1) d<0)<;>rfl
   dsimp only
   rw[e2,e3]
   exact Ret.some ⟨by rw[hD],by rw[hD];exact z2⟩
  |false=>
   have hD:D=(bW d n:Int):=by rw[hDe];exact if_neg (by decide)
   have hX0:=hxb.2.2 rfl
   have hu:=dV d
   have hle:bW d n≤uns d:=Nat.mod_le _ _
   rw[aj,dU,cg hd hn]
   have e3:Ae X D=false:=by
    unfold Ae
    rw[decide_eq_false (by omega),decide_eq_false (by omega)];rfl
   rw[e3,decide_eq_false (by omega),hD,Int.natAbs_natCast]
   exact Ret.some ⟨rfl,by omega⟩
 rintro _ ⟨rfl,hDlt⟩
 rw[ag]
 dsimp only[p5,p6]
 refine Ret.bnd (Q:=fun y=>∃h' l':Nat,h'<18446744073709551616∧l'<18446744073709551616∧h'*18446744073709551616+l'=X.natAbs∧y=Sum.inl (((n:Int),(sg,((h':Int),((l':Int),(((D.natAbs:Nat):Int),(decide (X<0),(Ae X D,()))))))),())) ?_ ?_
 ·have fin:∀h' l':Int,0≤h'→h'<18446744073709551616→0≤l'→l'<18446744073709551616→h'*18446744073709551616+l'=((X.natAbs:Nat):Int)→∃a b:Nat,a<18446744073709551616∧b<18446744073709551616∧a*18446744073709551616+b=X.natAbs∧h'=(a:Int)∧l'=(b:Int):=fun h' l' b1 b2 b3 b4 b5=>⟨h'.toNat,l'.toNat,by omega,by omega,by omega,by omega,by omega⟩
  by_cases hx:X<0
  ·rw[decide_eq_true hx,aH,subU,inotU a1 a2,Ap,Int.zero_sub]
   rw[if_pos hx]at hX
   obtain⟨n1,n2⟩:=negA a1 a3 a4 a2 hX hxb.1 hx
   refine Ret.bnd (Q:=fun y=>∃h' l':Nat,h'<18446744073709551616∧l'<18446744073709551616∧h'*18446744073709551616+l'=X.natAbs∧y=Sum.inl (((n:Int),(sg,((h':Int),((l':Int),(((D.natAbs:Nat):Int),(true,(Ae X D,()))))))),())) ?_ (by rintro _ ⟨h',l',g1,g2,g3,rfl⟩;rw[ag];exact Ret.some ⟨h',l',g1,g2,g3,rfl⟩)
   by_cases hz:(-l)%18446744073709551616=0
   ·obtain⟨a,b,g1,g2,g3,g4,g5⟩:=fin _ _ (by omega) (by omega) (by omega) (by omega) ((n1 hz).trans (by omega))
    rw[bc hz,aH,g4,g5]
    exact Ret.some ⟨a,b,g1,g2,g3,rfl⟩
   ·obtain⟨a,b,g1,g2,g3,g4,g5⟩:=fin _ _ (by omega) (by omega) (by omega) (by omega) ((n2 hz).trans (by omega))
    rw[aq hz,aj,g4,g5]
    exact Ret.some ⟨a,b,g1,g2,g3,rfl⟩
  ·rw[if_neg hx]at hX
   obtain⟨a,b,g1,g2,g3,g4,g5⟩:=fin h l a1 a2 a3 a4 (hX.trans (by omega))
   rw[decide_eq_false hx,aj,g4,g5]
   exact Ret.some ⟨a,b,g1,g2,g3,rfl⟩
 rintro _ ⟨h',l',b1,b2,hM,rfl⟩
 rw[ag]
 dsimp only[p5,p6]
 by_cases hov:D.natAbs≤h'
 ·have hb:t9 X.natAbs D.natAbs=true:=decide_eq_true (by omega)
  rw[eY (by omega),aH]
  unfold FR
  rw[if_pos hb]
  exact Ret.some ⟨0,0,rfl,fun g=>by cases g⟩
 have hb:¬t9 X.natAbs D.natAbs=true:=fun g=>by
  have:=of_decide_eq_true g
  omega
 rw[jI (by omega),aj,uB (by omega) hDlt b2,aa,hM,←hq,←hr]
 dsimp only
 have hq64:q<18446744073709551616:=by rw[hq];exact Nat.div_lt_of_lt_mul (by omega)
 have hr64:r<18446744073709551616:=by
  rw[hr]
  have:X.natAbs%D.natAbs<D.natAbs:=Nat.mod_lt _ (by omega)
  omega
 have hrD:r<D.natAbs:=by rw[hr];exact Nat.mod_lt _ (by omega)
 have hDn:sg=false→D.natAbs<2^(8*n):=fun g=>by
  have h5:=hDb.2.1
  have h6:=hDb.2.2.2 g
  have:((D.natAbs:Nat):Int)<((2^(8*n):Nat):Int):=by rw[jF];omega
  exact Int.ofNat_lt.1 this
 clear hov hXe hDe hq hr hM hxb hxt hDb hX e1
 have e8:bE .i64 8 (n:Int)=((8*n:Nat):Int):=by rw[eu (a:=8) (by omega) (by omega)];omega
 have w8:ah .u64 ((8*n:Nat):Int)=((8*n:Nat):Int):=co (by omega) (by omega)
 have e7:aV .i64 ((8*n:Nat):Int) 1=((8*n-1:Nat):Int):=by rw[ck (by omega) (by omega)];omega
 have w7:ah .u64 ((8*n-1:Nat):Int)=((8*n-1:Nat):Int):=co (by omega) (by omega)
 rw[e8,w8,e7,w7]
 cases sg with
 |false=>
  rw[show aX false=true from rfl,aH,af (show leI 0 ((8*n:Nat):Int)=true from eY (by omega)),zR (by omega)]
  have hok:br (eqI (n:Int) 8) (some true) (some (eqI ((q/2^(8*n):Nat):Int) 0))=some (decide (q<2^(8*n))):=by
   by_cases g:n=8
   ·subst g
    rw[bc (by rfl),aH,decide_eq_true (by exact hq64)]
   ·rw[aq (by omega),aj]
    congr 1
    unfold eqI
    rw[Bool.eq_iff_iff,decide_eq_true_eq,decide_eq_true_eq]
    have hp:=Nat.two_pow_pos (8*n)
    rw[show(((q/2^(8*n):Nat):Int)=0)↔q/2^(8*n)=0 from by omega,Nat.div_eq_zero_iff_lt hp]
  rw[hok,aa]
  unfold FR
  rw[if_neg hb,if_pos rfl]
  dsimp only
  refine Ret.some ⟨_,_,rfl,fun g=>?_⟩
  have gq:=of_decide_eq_true g
  have gr:r<2^(8*n):=Nat.lt_trans hrD (hDn rfl)
  have hw:∀z:Nat,z<2^(8*n)→ah .i64 (z:Int)=ki n (z:Int):=fun z hz=>by
   unfold ki ah
   have:(z:Int)%2^(8*n)=(z:Int):=by rw[←jF,←Int.natCast_emod,Nat.mod_eq_of_lt hz]
   rw[this]
  exact⟨hw q gq,hw r gr⟩
 |true=>
  rw[show aX true=false from rfl,aj,af (show leI 0 ((8*n-1:Nat):Int)=true from eY (by omega))]
  have hlim:dg .u64 1 ((8*n-1:Nat):Int)=((2^(8*n-1):Nat):Int):=by
   have:dg .u64 ((1:Nat):Int) ((8*n-1:Nat):Int)=_:=Gk (a:=1) (s:=8*n-1) (by omega)
   rw[show(1:Int)=((1:Nat):Int)from rfl,this,Nat.one_mul,Nat.mod_eq_of_lt]
   have:2^(8*n-1)<2^64:=Nat.pow_lt_pow_right (by decide) (by omega)
   exact this
  rw[hlim]
  obtain⟨t,ht⟩:∃t:Bool,t=Ae X D:=⟨_,rfl⟩
  unfold FR
  rw[if_neg hb,if_neg (show ¬true=false by decide),←ht]
  obtain⟨P,hP⟩:∃P,P=2^(8*n-1):=⟨_,rfl⟩
  have hcond:br (ltI ((2^(8*n-1):Nat):Int) (q:Int)) (some true) (bnd (br (eqI (q:Int) ((2^(8*n-1):Nat):Int)) (some (aX t)) (some false)) (fun x15=>some x15))=some (uc t n q):=by
   unfold uc
   rw[←hP]
   by_cases g:P<q
   ·rw[ii (by omega),aH]
    cases t with
    |true=>rw[if_pos rfl,decide_eq_true g]
    |false=>rw[if_neg (by decide),decide_eq_true (by omega)]
   ·rw[gF (by omega),aj]
    by_cases g2:q=P
    ·rw[bc (by omega),aH,aa]
     cases t with
     |true=>rw[if_pos rfl,decide_eq_false g];rfl
     |false=>rw[if_neg (by decide),decide_eq_true (by omega)];rfl
    ·rw[aq (by omega),aj,aa]
     cases t with
     |true=>rw[if_pos rfl,decide_eq_false g]
     |false=>rw[if_neg (by decide),decide_eq_false (by omega)]
  rw[hcond,aa]
  by_cases ho:uc t n q=true
  ·rw[ho,aH,if_pos rfl]
   exact Ret.some ⟨0,0,rfl,fun g=>by cases g⟩
  ·rw[Bool.eq_false_iff.2 ho,aj,if_neg (by decide)]
   refine Ret.bnd (Q:=fun y=>y=Sum.inl (((n:Int),(decide (X<0),((if t=true then aV .u64 0 (q:Int)else(q:Int)),((r:Int),())))),())) ?_ ?_
   ·cases t with
    |true=>rw[aH];exact Ret.some rfl
    |false=>rw[aj];exact Ret.some rfl
   rintro _ rfl
   rw[ag]
   dsimp only
   refine Ret.bnd (Q:=fun y=>y=Sum.inl (((n:Int),((if t=true then aV .u64 0 (q:Int)else(q:Int)),((if decide (X<0)=true then aV .u64 0 (r:Int)else(r:Int)),()))),())) ?_ ?_
   ·cases decide (X<0)with
    |true=>rw[aH];exact Ret.some rfl
    |false=>rw[aj];exact Ret.some rfl
   rintro _ rfl
   rw[ag]
   dsimp only
   rw[bn (gm _) n hn,bn (gm _) n hn,aa,aa,BX hn _ hq64,BX hn _ hr64]
   exact Ret.some ⟨_,_,rfl,fun _=>⟨rfl,rfl⟩⟩
noncomputable section
theorem pK (m:List Page)(a p:Int):∀(n:Nat) (k:Int),dy m a p n k=0∨dy m a p n k=13∨dy m a p n k=14
 |0,k=> .inl rfl
 |n+1,k=>by
  have ih:=pK m a p n (k+1)
  unfold dy
  split
  ·exact .inr (.inl rfl)
  ·split
   ·exact .inr (.inr rfl)
   ·exact ih
def jE (m:List Page)(a:Int)(n:Nat)(v:Int):List Page×Int:=
 match ch (((m,()),(a,((n:Int),(v,())))),())with
 |some x=>(x.2.1,x.1.2.1)
 |none=>(m,0)
theorem tE (m:List Page)(hm:MemT m)(a v:Int)(n:Nat)(hn:b8 (n:Int)=true)(ha:I64 a):
  ch (((m,()),(a,((n:Int),(v,())))),())=some (((),((jE m a n v).2,())),((jE m a n v).1,()))∧
   ((((jE m a n v).2=13∨(jE m a n v).2=14)∧(jE m a n v).1=m∧(jE m a n v).2=dy m a 2 n 0∧dy m a 2 n 0≠0)∨((jE m a n v).2=0∧dy m a 2 n 0=0∧Laid m a (leB v n) n (jE m a n v).1)):=by
 obtain⟨n1,n8⟩:=dq hn
 have hl:=hm.len
 have key:∃x e,ch (((m,()),(a,((n:Int),(v,())))),())=some (((),(e,())),(x,()))∧
   (((e=13∨e=14)∧x=m∧e=dy m a 2 n 0∧dy m a 2 n 0≠0)∨(e=0∧dy m a 2 n 0=0∧Laid m a (leB v n) n x)):=by
  unfold ch
  dsimp only
  rw[jc m hm.r a 2 n (by omega) ha (by decide) n1,aa]
  dsimp only
  by_cases hf:dy m a 2 n 0=0
  ·have hok:=ll hm.r n 0 hf
   have hok:∀k,k<(leB v n).length→¬fnd m (a+(k:Nat))<0:=fun k hk=>hok k (Nat.zero_le _) (by rw[od]at hk;omega)
   obtain⟨x,hx1,hx2⟩:=lay_ex m hm a (leB v n) ha (by rw[od];omega) hok
   rw[od]at hx2
   refine⟨x,0,?_,.inr ⟨rfl,hf,hx2⟩⟩
   rw[hf,bc rfl,ce,aj,BD v n n8,aa,hx1,aa]
  ·refine⟨m,dy m a 2 n 0,?_,.inl ⟨by rcases pK m a 2 n 0 with h|h|h;exact absurd h hf;exact .inl h;exact .inr h,rfl,rfl,hf⟩⟩
   rw[aq hf,cP,aH,nV m (by omega),aa]
 obtain⟨x,e,h1,h2⟩:=key
 unfold jE
 rw[h1]
 exact⟨rfl,h2⟩
theorem Fw {m:List Page}(hm:MemT m){a v:Int}{n:Nat}(hn:b8 (n:Int)=true)(ha:I64 a):MemT (jE m a n v).1:=by
 rcases(tE m hm a v n hn ha).2 with ⟨_,h,_⟩|⟨_,_,h⟩
 ·rw[h];exact hm
 ·exact h.memT hm
theorem BG (m:List Page)(a:Int)(n:Nat):I64 (qf m a n).1:=by
 unfold qf
 split
 ·exact ar _
 ·unfold I64;dsimp only;omega
structure MS where
 g:List Int
 m:List Page
 code:Int
 l:List Acc
abbrev TM:=(List Int×Int×Int×Int×Int×Unit)×List Page×List Acc×Unit
def MS.t (s:MS)(rip fl nx:Int):TM:=((s.g,rip,fl,nx,s.code,()),s.m,s.l,())
abbrev rg (g:List Int)(i:Int):Int:=aQ g i (aB .i)
def iW (g:List Int):Prop:=∀i,I64 (rg g i)
structure MS.ok (s:MS)(k:Nat):Prop where
 m:MemT s.m
 l:s.l.length≤k
 g:iW s.g
theorem MS.ok.mono {s:MS}{k j:Nat}(h:s.ok k)(hk:k≤j):s.ok j:=⟨h.m,Nat.le_trans h.l hk,h.g⟩
def MS.ld (s:MS)(a:Int)(n:Nat):Int×MS:=
 if s.code≠0 then(0,s)else((qf s.m a n).1,{s with code:=(qf s.m a n).2,l:=s.l++[Acc.mk 1 a n (qf s.m a n).1]})
def MS.st (s:MS)(a:Int)(n:Nat)(v:Int):MS:=
 if s.code≠0 then s else {s with m:=(jE s.m a n v).1,code:=(jE s.m a n v).2,l:=s.l++[Acc.mk 2 a n (bO v n)]}
theorem DV {α:Type}{xs:List α}{x:α}(h:xs.length≤1000):gH xs [x]=true:=by
 exact kP (by simp;omega)
theorem BH {s:MS}{k:Nat}(hs:s.ok k)(hk:k≤1000){a:Int}(ha:I64 a){n:Nat}(hn:b8 (n:Int)=true)(rip fl nx:Int):
  aL ((a,((n:Int),())),s.t rip fl nx)=some ((s.ld a n).1,(s.ld a n).2.t rip fl nx):=by
 obtain⟨n1,n8⟩:=dq hn
 unfold aL MS.t MS.ld
 dsimp only
 by_cases hc:s.code=0
 ·rw[hc,if_neg (by simp),bc rfl,ce,aj,uw _ hs.m.r a n n1 n8 ha,aa]
  dsimp only
  rw[DV (Nat.le_trans hs.l hk),aH]
  rfl
 ·rw[if_pos hc,aq hc,cP,aH]
theorem xr {s:MS}{k:Nat}(hs:s.ok k)(hk:k≤1000){a v:Int}(ha:I64 a){n:Nat}(hn:b8 (n:Int)=true)(rip fl nx:Int):
  aC ((a,((n:Int),(v,()))),s.t rip fl nx)=some ((),(s.st a n v).t rip fl nx):=by
 unfold aC MS.t MS.st
 dsimp only
 by_cases hc:s.code=0
 ·rw[hc,if_neg (by simp),bc rfl,ce,aj,(tE _ hs.m a v n hn ha).1,aa,bG v n hn,aa]
  dsimp only
  rw[DV (Nat.le_trans hs.l hk),aH]
  rfl
 ·rw[if_pos hc,aq hc,cP,aH]
theorem MS.ok.ld {s:MS}{k:Nat}(hs:s.ok k)(a:Int)(n:Nat):(s.ld a n).2.ok (k+1)∧I64 (s.ld a n).1∧(s.ld a n).2.g=s.g∧(s.ld a n).2.m=s.m:=by
 unfold MS.ld
 split
 ·exact⟨hs.mono (Nat.le_succ k),by unfold I64;dsimp only;omega,rfl,rfl⟩
 ·exact⟨⟨hs.m,by simp;exact hs.l,hs.g⟩,BG ..,rfl,rfl⟩
theorem MS.ok.st {s:MS}{k:Nat}(hs:s.ok k){a:Int}(ha:I64 a){n:Nat}(hn:b8 (n:Int)=true)(v:Int):(s.st a n v).ok (k+1)∧(s.st a n v).g=s.g:=by
 unfold MS.st
 split
 ·exact⟨hs.mono (Nat.le_succ k),rfl⟩
 ·exact⟨⟨Fw hs.m hn ha,by simp;exact hs.l,hs.g⟩,rfl⟩
def setA (g:List Int)(i v:Int):List Int:=cr (dP 16 (aB .i) g) i v
def jQ (g:List Int)(r:Int)(n:Nat):Int:=if 16≤r then bO (cf .i64 (rg g (r-16)) 8) 1 else bO (rg g r) n
def qM (g:List Int)(r:Int)(n:Nat)(v:Int):List Int:=
 if 16≤r then setA g (r-16) (ior .i64 (fM .i64 (rg g (r-16)) 65280) (dg .i64 (bO v 1) 8))
 else if 4≤n then setA g r (bO v n)
 else setA g r (aG .i64 (rg g r) (aV .i64 (bO v n) (bO (rg g r) n)))
theorem iW.setA {g:List Int}(h:iW g){i v:Int}(hv:I64 v):iW (setA g i v):=by
 intro j
 have h0:∀k:Nat,I64 (((dP 16 (aB .i) g)).getD k (aB .i)):=fun k=>by
  unfold dP
  rw[List.getD_eq_getElem?_getD,List.getElem?_append]
  split
  ·have:=h (k:Int)
   unfold rg aQ at this
   rw[Int.toNat_natCast,List.getD_eq_getElem?_getD]at this
   exact this
  ·rw[List.getElem?_replicate]
   split
   ·exact(by unfold I64;decide:I64 (0:Int))
   ·exact(by unfold I64;decide:I64 (0:Int))
 unfold rg aQ Go.Den.G.setA cr
 rw[List.getD_eq_getElem?_getD,List.getElem?_set]
 split
 ·split
  ·exact hv
  ·exact(by unfold I64;decide:I64 (0:Int))
 ·have:=h0 j.toNat
  rw[List.getD_eq_getElem?_getD]at this
  exact this
theorem sL {g:List Int}(h:iW g){r:Int}{n:Nat}(hn:b8 (n:Int)=true):I64 (jQ g r n):=by
 unfold jQ
 split
 ·exact dX (by
   have:=h (r-16)
   unfold I64 at this⊢
   unfold cf
   rw[show(2:Int)^min (Int.toNat 8) IntKind.i64.bits=256 from rfl,Int.fdiv_eq_ediv_of_nonneg _ (by decide)]
   omega) (by rfl)
 ·exact dX (h r) hn
theorem kX {g:List Int}(h:iW g){r v:Int}(hv:I64 v){n:Nat}(hn:b8 (n:Int)=true):iW (qM g r n v):=by
 unfold qM
 split
 ·exact h.setA (j6 ..)
 ·split
  ·exact h.setA (dX hv hn)
  ·exact h.setA (ar _)
theorem lv (r:Int):aF ((r,()),())=some (decide (16≤r∧r≤19),()):=by
 unfold aF
 dsimp only
 rw[lT,aa]
 congr 2
 unfold inB
 rw[Bool.eq_iff_iff]
 simp
def ml (g:List Int)(nx:Int)(o:Opd):Int:=
 let a:=if o.base=16 then aG .i64 o.disp nx else if 0≤o.base then aG .i64 o.disp (rg g o.base)else o.disp
 if 0≤o.index then aG .i64 a (bE .i64 (rg g o.index) o.scale)else a
structure OpV (o:Opd)(z:Int):Prop where
 r:o.kind≠2→(o.kind=1→qF o.reg z)
 b:o.kind=2→o.base≤16∧o.index≤15
 d:I64 o.disp
 i:I64 o.imm
theorem kI {g:List Int}{nx:Int}{o:Opd}{z:Int}(h:OpV o z):I64 (ml g nx o):=by
 unfold ml
 dsimp only
 split
 ·exact ar _
 ·split
  ·exact ar _
  ·split
   ·exact ar _
   ·exact h.d
def MS.rd (s:MS)(nx:Int)(o:Opd)(n:Nat):Int×MS:=
 if o.kind=1 then(jQ s.g o.reg n,s)else if o.kind=2 then s.ld (ml s.g nx o) n else(o.imm,s)
def MS.wr (s:MS)(nx:Int)(o:Opd)(n:Nat)(v:Int):MS:=
 if o.kind=2 then s.st (ml s.g nx o) n v else {s with g:=qM s.g o.reg n v}
theorem Gg {s:MS}{k:Nat}(hs:s.ok k)(hk:k≤1000){o:Opd}{n:Nat}(hn:b8 (n:Int)=true)(hv:OpV o n)(rip fl nx:Int):
  aw ((cL o (),((n:Int),())),s.t rip fl nx)=some ((s.rd nx o n).1,(s.rd nx o n).2.t rip fl nx):=by
 unfold aw
 dsimp only[cL,p5,p6]
 have hI:=kI (g:=s.g) (nx:=nx) hv
 have hl:=BH hs hk hI hn rip fl nx
 by_cases h1:o.kind=1
 ·have hr:=hv.r (by omega) h1
  unfold MS.rd
  rw[if_pos h1,bc h1,aH,lv,aa]
  unfold qF at hr
  dsimp only
  unfold jQ MS.t
  by_cases h16:16≤o.reg
  ·rw[decide_eq_true ⟨h16,by omega⟩,aH,if_pos h16,ck (by omega) (by omega),af (cH (by omega) (by omega)),show(1:Int)=((1:Nat):Int)from rfl,bG _ 1 rfl,aa]
  ·rw[decide_eq_false (by omega),aj,if_neg h16,af (cH (by omega) (by omega)),bG _ n hn,aa]
 ·rw[aq h1,aj]
  by_cases h2:o.kind=2
  ·have hb:=hv.b h2
   unfold MS.rd
   rw[if_neg h1,if_pos h2,bc h2,aH]
   have hg:=(hs.ld (ml s.g nx o) n).2.2.1
   have hfin:∀a:Int,a=ml s.g nx o→(bnd (aL ((a,((n:Int),())),s.t rip fl nx)) (fun x5=>some (x5.1,((s.g,(rip,(fl,(nx,x5.2.1.2.2.2.2)))),x5.2.2))))=some ((s.ld (ml s.g nx o) n).1,(s.ld (ml s.g nx o) n).2.t rip fl nx):=by
    rintro _ rfl
    rw[hl,aa]
    unfold MS.t
    dsimp only
    rw[hg]
   unfold MS.t at hfin⊢
   dsimp only
   by_cases b16:o.base=16
   ·rw[bc b16,aH]
    by_cases hi:0≤o.index
    ·rw[af (eY hi),af (cH hi (by omega))]
     exact hfin _ (by unfold ml;dsimp only;rw[if_pos b16,if_pos hi])
    ·rw[am (jI hi)]
     exact hfin _ (by unfold ml;dsimp only;rw[if_pos b16,if_neg hi])
   ·rw[aq b16,aj]
    by_cases hb0:0≤o.base
    ·rw[af (eY hb0),af (cH hb0 (by omega))]
     by_cases hi:0≤o.index
     ·rw[af (eY hi),af (cH hi (by omega))]
      exact hfin _ (by unfold ml;dsimp only;rw[if_neg b16,if_pos hb0,if_pos hi])
     ·rw[am (jI hi)]
      exact hfin _ (by unfold ml;dsimp only;rw[if_neg b16,if_pos hb0,if_neg hi])
    ·rw[am (jI hb0)]
     by_cases hi:0≤o.index
     ·rw[af (eY hi),af (cH hi (by omega))]
      exact hfin _ (by unfold ml;dsimp only;rw[if_neg b16,if_neg hb0,if_pos hi])
     ·rw[am (jI hi)]
      exact hfin _ (by unfold ml;dsimp only;rw[if_neg b16,if_neg hb0,if_neg hi])
  ·unfold MS.rd
   rw[if_neg h1,if_neg h2,aq h2,aj]
theorem set_m {g:List Int}{r v:Int}{n:Nat}(hn:b8 (n:Int)=true)(hr:qF r n){α:Type}(Z:List Int→Option α):
  (bnd (aF ((r,()),())) (fun x8=>(br x8.1 (br (inR (aV .i64 r 16) 16) (bnd (ae ((v,(1,())),())) (fun x9=>Z (cr (dP 16 (aB .i) g) (aV .i64 r 16) (ior .i64 (fM .i64 (aQ g (aV .i64 r 16) (aB .i)) 65280) (dg .i64 x9.1 8))))) none) (br (leI 4 (n:Int)) (bnd (ae ((v,((n:Int),())),())) (fun x10=>(br (inR r 16) (Z (cr (dP 16 (aB .i) g) r x10.1)) none))) (br (inR r 16) (br (inR r 16) (bnd (ae ((v,((n:Int),())),())) (fun x11=>(bnd (ae (((aQ g r (aB .i)),((n:Int),())),())) (fun x12=>(br (inR r 16) (Z (cr (dP 16 (aB .i) g) r (aG .i64 (aQ g r (aB .i)) (aV .i64 x11.1 x12.1)))) none))))) none) none)))))=Z (qM g r n v):=by
 unfold qF at hr
 rw[lv,aa]
 dsimp only
 unfold qM Go.Den.G.setA
 by_cases h16:16≤r
 ·rw[decide_eq_true ⟨h16,by omega⟩,aH,if_pos h16,ck (by omega) (by omega),af (cH (by omega) (by omega)),show(1:Int)=((1:Nat):Int)from rfl,bG _ 1 rfl,aa]
 ·rw[decide_eq_false (by omega),aj,if_neg h16]
  have hin:inR r 16=true:=cH (by omega) (by omega)
  by_cases h4:4≤n
  ·rw[af (eY (by omega)),bG _ n hn,aa,hin,aH,if_pos h4]
  ·rw[am (jI (by omega)),hin,aH,aH,bG _ n hn,bG _ n hn,aa,aa,aH,if_neg h4]
theorem write_m {s:MS}{k:Nat}(hs:s.ok k)(hk:k≤1000){o:Opd}{n:Nat}{v:Int}(hn:b8 (n:Int)=true)(hv:OpV o n)(h0:o.kind=1∨o.kind=2)(rip fl nx:Int):
  ap ((cL o (),((n:Int),(v,()))),s.t rip fl nx)=some ((),(s.wr nx o n v).t rip fl nx):=by
 unfold ap
 dsimp only[cL,p5,p6]
 have hI:=kI (g:=s.g) (nx:=nx) hv
 have hl:=xr hs hk (v:=v) hI hn rip fl nx
 by_cases h2:o.kind=2
 ·have hb:=hv.b h2
  unfold MS.wr
  rw[if_pos h2,bc h2,aH]
  have hg:=(hs.st (v:=v) hI hn).2
  have hfin:∀a:Int,a=ml s.g nx o→(bnd (aC ((a,((n:Int),(v,()))),s.t rip fl nx)) (fun x5=>some ((),((s.g,(rip,(fl,(nx,x5.2.1.2.2.2.2)))),x5.2.2))))=some ((),(s.st (ml s.g nx o) n v).t rip fl nx):=by
   rintro _ rfl
   rw[hl,aa]
   unfold MS.t
   dsimp only
   rw[hg]
  unfold MS.t at hfin⊢
  dsimp only
  by_cases b16:o.base=16
  ·rw[bc b16,aH]
   by_cases hi:0≤o.index
   ·rw[af (eY hi),af (cH hi (by omega))]
    exact hfin _ (by unfold ml;dsimp only;rw[if_pos b16,if_pos hi])
   ·rw[am (jI hi)]
    exact hfin _ (by unfold ml;dsimp only;rw[if_pos b16,if_neg hi])
  ·rw[aq b16,aj]
   by_cases hb0:0≤o.base
   ·rw[af (eY hb0),af (cH hb0 (by omega))]
    by_cases hi:0≤o.index
    ·rw[af (eY hi),af (cH hi (by omega))]
     exact hfin _ (by unfold ml;dsimp only;rw[if_neg b16,if_pos hb0,if_pos hi])
    ·rw[am (jI hi)]
     exact hfin _ (by unfold ml;dsimp only;rw[if_neg b16,if_pos hb0,if_neg hi])
   ·rw[am (jI hb0)]
    by_cases hi:0≤o.index
    ·rw[af (eY hi),af (cH hi (by omega))]
     exact hfin _ (by unfold ml;dsimp only;rw[if_neg b16,if_neg hb0,if_pos hi])
    ·rw[am (jI hi)]
     exact hfin _ (by unfold ml;dsimp only;rw[if_neg b16,if_neg hb0,if_neg hi])
 ·have h1:o.kind=1:=by omega
  unfold MS.wr
  rw[if_neg h2,aq h2,aj]
  exact set_m hn (hv.r h2 h1) (fun g'=>some ((),((g',(rip,(fl,(nx,(s.code,()))))),(s.m,(s.l,())))))
theorem MS.ok.rd {s:MS}{k:Nat}(hs:s.ok k)(nx:Int){o:Opd}{n:Nat}(hn:b8 (n:Int)=true)(hv:OpV o n):(s.rd nx o n).2.ok (k+1)∧I64 (s.rd nx o n).1∧(s.rd nx o n).2.g=s.g∧(s.rd nx o n).2.m=s.m:=by
 unfold MS.rd
 split
 ·exact⟨hs.mono (Nat.le_succ k),sL hs.g hn,rfl,rfl⟩
 ·split
  ·exact hs.ld ..
  ·exact⟨hs.mono (Nat.le_succ k),hv.i,rfl,rfl⟩
theorem MS.ok.wr {s:MS}{k:Nat}(hs:s.ok k)(nx:Int){o:Opd}{n:Nat}{v:Int}(hI:I64 v)(hn:b8 (n:Int)=true)(hv:OpV o n):(s.wr nx o n v).ok (k+1):=by
 unfold MS.wr
 split
 ·exact(hs.st (kI hv) hn v).1
 ·exact⟨hs.m,Nat.le_trans hs.l (Nat.le_succ k),kX hs.g hI hn⟩
def MS.pu (s:MS)(v:Int):MS:=({s with g:=setA s.g 4 (aV .i64 (rg s.g 4) 8)}:MS).st (rg (setA s.g 4 (aV .i64 (rg s.g 4) 8)) 4) 8 v
def MS.po (s:MS):Int×MS:=((s.ld (rg s.g 4) 8).1,{(s.ld (rg s.g 4) 8).2 with g:=setA s.g 4 (aG .i64 (rg s.g 4) 8)})
theorem MS.ok.setA {s:MS}{k:Nat}(hs:s.ok k){i v:Int}(hv:I64 v):MS.ok {s with g:=Go.Den.G.setA s.g i v} k:=⟨hs.m,hs.l,hs.g.setA hv⟩
theorem MS.ok.pu {s:MS}{k:Nat}(hs:s.ok k)(v:Int):(s.pu v).ok (k+1):=by
 have h1:=hs.setA (i:=4) (v:=aV .i64 (rg s.g 4) 8) (ar _)
 exact(h1.st (h1.g 4) rfl v).1
theorem MS.ok.po {s:MS}{k:Nat}(hs:s.ok k):s.po.2.ok (k+1)∧I64 s.po.1∧s.po.2.m=s.m:=by
 have h1:=hs.ld (rg s.g 4) 8
 unfold MS.po
 exact⟨⟨h1.1.m,h1.1.l,hs.g.setA (ar _)⟩,h1.2.1,h1.2.2.2⟩
theorem push_m {s:MS}{k:Nat}(hs:s.ok k)(hk:k≤1000)(v rip fl nx:Int):ci ((v,()),s.t rip fl nx)=some ((),(s.pu v).t rip fl nx):=by
 have h1:=hs.setA (i:=4) (v:=aV .i64 (rg s.g 4) 8) (ar _)
 have h2:=xr h1 hk (a:=rg (setA s.g 4 (aV .i64 (rg s.g 4) 8)) 4) (v:=v) (n:=8) (h1.g 4) rfl rip fl nx
 have h3:=(h1.st (a:=rg (setA s.g 4 (aV .i64 (rg s.g 4) 8)) 4) (n:=8) (h1.g 4) rfl v).2
 unfold ci
 unfold MS.t at h2⊢
 dsimp only at h2 h3⊢
 have h2':aC (((aQ (cr (dP 16 (aB .i) s.g) 4 (aV .i64 (aQ s.g 4 (aB .i)) 8)) 4 (aB .i)),(8,(v,()))),(((cr (dP 16 (aB .i) s.g) 4 (aV .i64 (aQ s.g 4 (aB .i)) 8)),(rip,(fl,(nx,(s.code,()))))),(s.m,(s.l,()))))=_:=h2
 rw[h2',aa]
 unfold MS.pu
 dsimp only
 rw[h3]
 rfl
theorem pop_m {s:MS}{k:Nat}(hs:s.ok k)(hk:k≤1000)(rip fl nx:Int):cz ((),s.t rip fl nx)=some (s.po.1,s.po.2.t rip fl nx):=by
 have h2:=BH hs hk (a:=rg s.g 4) (n:=8) (hs.g 4) rfl rip fl nx
 unfold cz
 unfold MS.t at h2⊢
 dsimp only at h2⊢
 have h2':aL (((aQ s.g 4 (aB .i)),(8,())),((s.g,(rip,(fl,(nx,(s.code,()))))),(s.m,(s.l,()))))=_:=h2
 rw[h2',aa]
 rfl
def MS.go (s:MS)(nx:Int)(x:Ins):Int×MS:=if x.src.kind=3 then(aG .i64 nx x.src.imm,s)else s.rd nx x.src 8
theorem goal_m {s:MS}{k:Nat}(hs:s.ok k)(hk:k≤1000){x:Ins}(hv:OpV x.src 8)(rip fl nx:Int):bw ((x,()),s.t rip fl nx)=some ((s.go nx x).1,(s.go nx x).2.t rip fl nx):=by
 have hr:=Gg hs hk (n:=8) rfl hv rip fl nx
 have hg:=(hs.rd nx (n:=8) rfl hv).2.2.1
 unfold bw MS.go
 dsimp only
 by_cases h3:x.src.kind=3
 ·rw[bc h3,aH,if_pos h3]
  rfl
 ·rw[aq h3,aj,if_neg h3]
  have hr':aw ((cL x.src (),(8,())),s.t rip fl nx)=_:=hr
  rw[hr',aa]
  unfold MS.t
  dsimp only
  rw[hg]
theorem MS.ok.go {s:MS}{k:Nat}(hs:s.ok k)(nx:Int){x:Ins}(hv:OpV x.src 8):(s.go nx x).2.ok (k+1)∧I64 (s.go nx x).1:=by
 unfold MS.go
 split
 ·exact⟨hs.mono (Nat.le_succ k),ar _⟩
 ·have:=hs.rd nx (n:=8) rfl hv
  exact⟨this.1,this.2.1⟩
end
set_option synthInstance.maxSize 4000
set_option synthInstance.maxHeartbeats 400000
def kOf (c:UInt8):Int:=if c=114 then 1 else if c=109 then 2 else if c=105 then 3 else 0
def kindT (n:Nat)(kd ks:Int):Bool:=
 decide ((n≤12∨17≤n∧n≤28∨n=30∨n=35∨n=36→kd=1∨kd=2)∧(n=28→ks=1)∧(n=25→kd=1∧ks=2)∧
  (n=9→kd=2→ks≠2)∧(n=26∨n=27∨n=36∨n=17→kd=1∧(ks=1∨ks=2))∧(13≤n∧n≤16→ks=1∨ks=2)∧(n=29∨n=31∨n=32→ks=1∨ks=2∨ks=3)∧(n=33→ks=3)∧
  (20≤n∧n≤24→ks=1∨ks=3)∧(n=11∨n=12∨n=18∨n=19→ks=0)∧(n≤8∨n=10∨n=17→ks=1∨ks=2∨ks=3))
theorem Ee:∀n,n<45→1≤n→∀q∈prK n,q.length=2∧q.getD 0 0∈DF∧q.getD 1 0∈DF∧kindT n (kOf (q.getD 0 0)) (kOf (q.getD 1 0))=true:=by decide +kernel
theorem F5 {k:Int}{c:UInt8}(hc:c∈DF)(h:rb k c):k=kOf c:=by
 have hc:c=114∨c=109∨c=105∨c=48:=by simpa[DF]using hc
 unfold rb at h
 rcases hc with rfl|rfl|rfl|rfl<;>revert h<;>unfold kOf<;>intro h<;>simp at h⊢ <;>omega
theorem Ed {n:Nat}(h1:1≤n)(h2:n<45){kd ks:Int}(h:(prK n).any (vd kd ks)=true):kindT n kd ks=true:=by
 rw[List.any_eq_true]at h
 obtain⟨q,hq,hp⟩:=h
 obtain⟨l,a,b,t⟩:=Ee n h2 h1 q hq
 match q,l with
 |[c,d],_=>
  simp only[vd,Bool.and_eq_true,decide_eq_true_eq]at hp
  rw[F5 (c:=c) a hp.1,F5 (c:=d) b hp.2]
  exact t
def sizeT (n:Nat)(z:Int):Bool:=decide ((n≤28∨n=36∨n=40→b8 z=true)∧(n=39→z=2∨z=4∨z=8)∧(29≤n∧n≤32→z=8)∧(n=35→z=1)∧(n=33→z=0))
theorem Fr:∀n,n<45→1≤n→∀z∈szL (szK n),sizeT n z=true:=by decide +kernel
structure ExV (x:Ins)(n:Nat):Prop where
 op:x.op=n
 n1:1≤n
 n2:n<45
 kt:kindT n x.dst.kind x.src.kind=true
 zt:sizeT n x.size=true
 dv:OpV x.dst x.size
 sv:OpV x.src (sSz x n)
 fr:(n=26∨n=27→b8 x.frm=true)∧(¬(n=26∨n=27)→x.frm=0)
 c0:0≤x.cond
 c1:x.cond≤15
theorem FM {o:Opd}{z:Int}(h:qx o z)(hd:I64 o.disp)(hi:I64 o.imm):OpV o z:=by
 unfold qx opB Ah at h
 refine⟨fun _ h1=>?_,fun h2=>?_,hd,hi⟩
 ·rcases h with h|h|h|h
  ·exact h.2.2.2.2.2.2
  ·omega
  ·omega
  ·omega
 ·rcases h with h|h|h|h
  ·omega
  ·omega
  ·omega
  ·omega
theorem ExV_of {x:Ins}{n:Nat}(hop:x.op=n)(h1:1≤n)(h2:n<45)(h:F2 x n)(hI:I64 x.dst.disp∧I64 x.dst.imm∧I64 x.src.disp∧I64 x.src.imm):ExV x n:=by
 obtain⟨_,_,hs,hf,_,c0,c1,hd,hsr,_⟩:=h
 unfold shB at hs
 simp only[Bool.and_eq_true,decide_eq_true_eq]at hs
 obtain⟨hz,hk,hnum⟩:=hs
 refine⟨hop,h1,h2,Ed h1 h2 hk,Fr n h2 h1 _ hz,FM hd hI.1 hI.2.1,FM hsr hI.2.2.1 hI.2.2.2,⟨fun h=>?_,fun h=>?_⟩,c0,c1⟩
 ·unfold vS at hnum
  rcases h with rfl|rfl
  ·have hnum:decide (x.frm=1∨x.frm=2∧2<x.size)=true:=hnum
   rcases of_decide_eq_true hnum with h|h
   ·rw[h];rfl
   ·rw[h.1];rfl
  ·have hnum:decide (x.frm=1∨x.frm=2∧2<x.size∨x.frm=4∧x.size=8)=true:=hnum
   rcases of_decide_eq_true hnum with h|h|h
   ·rw[h];rfl
   ·rw[h.1];rfl
   ·rw[h.1];rfl
 ·rcases hf with h'|h'
  ·exact absurd h' h
  ·exact h'
theorem ExV.kd {x:Ins}{n:Nat}(h:ExV x n):(n≤12∨17≤n∧n≤28∨n=30∨n=35∨n=36→x.dst.kind=1∨x.dst.kind=2)∧(n=28→x.src.kind=1)∧(n=25→x.dst.kind=1∧x.src.kind=2)∧
  (n=9→x.dst.kind=2→x.src.kind≠2)∧(n=26∨n=27∨n=36∨n=17→x.dst.kind=1∧(x.src.kind=1∨x.src.kind=2))∧(13≤n∧n≤16→x.src.kind=1∨x.src.kind=2)∧(n=29∨n=31∨n=32→x.src.kind=1∨x.src.kind=2∨x.src.kind=3)∧(n=33→x.src.kind=3)∧
  (20≤n∧n≤24→x.src.kind=1∨x.src.kind=3)∧(n=11∨n=12∨n=18∨n=19→x.src.kind=0)∧(n≤8∨n=10∨n=17→x.src.kind=1∨x.src.kind=2∨x.src.kind=3):=of_decide_eq_true h.kt
theorem ExV.szs {x:Ins}{n:Nat}(h:ExV x n):(n≤28∨n=36∨n=40→b8 x.size=true)∧(n=39→x.size=2∨x.size=4∨x.size=8)∧(29≤n∧n≤32→x.size=8)∧(n=35→x.size=1)∧(n=33→x.size=0):=of_decide_eq_true h.zt
theorem ph {z:Int}(h:b8 z=true):∃k:Nat,z=(k:Int)∧b8 (k:Int)=true:=by
 obtain⟨k,hk,_⟩:=Ea h
 exact⟨k,hk,by rw[←hk];exact h⟩
noncomputable section
theorem zK {r:Int×MS}{g:List Int}{m:List Page}(hg:r.2.g=g)(hm:r.2.m=m):∃v c' l',r=(v,MS.mk g m c' l'):=by
 obtain⟨v,g',m',c',l'⟩:=r
 cases hg;cases hm
 exact⟨v,c',l',rfl⟩
theorem qD {g:List Int}{m:List Page}{c:Int}{l:List Acc}{k:Nat}(hs:(MS.mk g m c l).ok k)(hk:k≤1000){o:Opd}{n:Nat}(hn:b8 (n:Int)=true)(hv:OpV o n)(nx:Int):
  ∃v c' l',(MS.mk g m c l).rd nx o n=(v,⟨g,m,c',l'⟩)∧(∀rip fl,aw ((cL o (),((n:Int),())),((g,rip,fl,nx,c,()),m,l,()))=some (v,((g,rip,fl,nx,c',()),m,l',())))∧(MS.mk g m c' l').ok (k+1)∧I64 v:=by
 obtain⟨h1,h2,h3,h4⟩:=hs.rd nx hn hv
 have h5:=fun rip fl=>Gg hs hk hn hv rip fl nx
 obtain⟨v,c',l',e⟩:=zK h3 h4
 rw[e]at h1 h2
 refine⟨v,c',l',e,fun rip fl=>?_,h1,h2⟩
 have:=h5 rip fl
 rw[e]at this
 exact this
theorem rj {g:List Int}{m:List Page}{c:Int}{l:List Acc}{k:Nat}(hs:(MS.mk g m c l).ok k)(hk:k≤1000){o:Opd}{n:Nat}(hn:b8 (n:Int)=true)(hv:OpV o n)(h0:o.kind=1∨o.kind=2)(nx:Int){v:Int}(hI:I64 v):
  ∃g' m' c' l',(MS.mk g m c l).wr nx o n v=⟨g',m',c',l'⟩∧(∀rip fl,ap ((cL o (),((n:Int),(v,()))),((g,rip,fl,nx,c,()),m,l,()))=some ((),((g',rip,fl,nx,c',()),m',l',())))∧(MS.mk g' m' c' l').ok (k+1):=
 ⟨_,_,_,_,rfl,fun rip fl=>write_m hs hk hn hv h0 rip fl nx,hs.wr nx hI hn hv⟩
theorem pu_ex {g:List Int}{m:List Page}{c:Int}{l:List Acc}{k:Nat}(hs:(MS.mk g m c l).ok k)(hk:k≤1000)(v:Int):
  ∃g' m' c' l',(MS.mk g m c l).pu v=⟨g',m',c',l'⟩∧(∀rip fl nx,ci ((v,()),((g,rip,fl,nx,c,()),m,l,()))=some ((),((g',rip,fl,nx,c',()),m',l',())))∧(MS.mk g' m' c' l').ok (k+1):=
 ⟨_,_,_,_,rfl,fun rip fl nx=>push_m hs hk v rip fl nx,hs.pu v⟩
theorem po_ex {g:List Int}{m:List Page}{c:Int}{l:List Acc}{k:Nat}(hs:(MS.mk g m c l).ok k)(hk:k≤1000):
  ∃v g' m' c' l',(MS.mk g m c l).po=(v,⟨g',m',c',l'⟩)∧(∀rip fl nx,cz ((),((g,rip,fl,nx,c,()),m,l,()))=some (v,((g',rip,fl,nx,c',()),m',l',())))∧(MS.mk g' m' c' l').ok (k+1)∧I64 v:=
 ⟨_,_,_,_,_,rfl,fun rip fl nx=>pop_m hs hk rip fl nx,hs.po.1,hs.po.2.1⟩
theorem go_ex {g:List Int}{m:List Page}{c:Int}{l:List Acc}{k:Nat}(hs:(MS.mk g m c l).ok k)(hk:k≤1000){x:Ins}(hv:OpV x.src 8)(nx:Int):
  ∃v c' l',(MS.mk g m c l).go nx x=(v,⟨g,m,c',l'⟩)∧(∀rip fl,bw ((x,()),((g,rip,fl,nx,c,()),m,l,()))=some (v,((g,rip,fl,nx,c',()),m,l',())))∧(MS.mk g m c' l').ok (k+1)∧I64 v:=by
 obtain⟨h1,h2⟩:=hs.go nx hv
 have h5:=fun rip fl=>goal_m hs hk hv rip fl nx
 have h3:((MS.mk g m c l).go nx x).2.g=g∧((MS.mk g m c l).go nx x).2.m=m:=by
  unfold MS.go
  split
  ·exact⟨rfl,rfl⟩
  ·exact(hs.rd nx (n:=8) rfl hv).2.2
 obtain⟨v,c',l',e⟩:=zK h3.1 h3.2
 rw[e]at h1 h2
 refine⟨v,c',l',e,fun rip fl=>?_,h1,h2⟩
 have:=h5 rip fl
 rw[e]at this
 exact this
theorem ld_ex {g:List Int}{m:List Page}{c:Int}{l:List Acc}{k:Nat}(hs:(MS.mk g m c l).ok k)(hk:k≤1000){a:Int}(ha:I64 a){n:Nat}(hn:b8 (n:Int)=true):
  ∃v c' l',(MS.mk g m c l).ld a n=(v,⟨g,m,c',l'⟩)∧(∀rip fl nx,aL ((a,((n:Int),())),((g,rip,fl,nx,c,()),m,l,()))=some (v,((g,rip,fl,nx,c',()),m,l',())))∧(MS.mk g m c' l').ok (k+1)∧I64 v:=by
 obtain⟨h1,h2,h3,h4⟩:=hs.ld a n
 have h5:=fun rip fl nx=>BH hs hk ha hn rip fl nx
 obtain⟨v,c',l',e⟩:=zK h3 h4
 rw[e]at h1 h2
 refine⟨v,c',l',e,fun rip fl nx=>?_,h1,h2⟩
 have:=h5 rip fl nx
 rw[e]at this
 exact this
theorem st_ex {g:List Int}{m:List Page}{c:Int}{l:List Acc}{k:Nat}(hs:(MS.mk g m c l).ok k)(hk:k≤1000){a:Int}(ha:I64 a){n:Nat}(hn:b8 (n:Int)=true)(v:Int):
  ∃m' c' l',(MS.mk g m c l).st a n v=⟨g,m',c',l'⟩∧(∀rip fl nx,aC ((a,((n:Int),(v,()))),((g,rip,fl,nx,c,()),m,l,()))=some ((),((g,rip,fl,nx,c',()),m',l',())))∧(MS.mk g m' c' l').ok (k+1):=by
 obtain⟨h1,h2⟩:=hs.st ha hn v
 have h5:=fun rip fl nx=>xr hs hk (v:=v) ha hn rip fl nx
 obtain⟨m',c',l',e⟩:∃m' c' l',(MS.mk g m c l).st a n v=⟨g,m',c',l'⟩:=by
  generalize (MS.mk g m c l).st a n v=r at h2
  obtain⟨g',m',c',l'⟩:=r
  cases h2
  exact⟨m',c',l',rfl⟩
 rw[e]at h1
 refine⟨m',c',l',e,fun rip fl nx=>?_,h1⟩
 have:=h5 rip fl nx
 rw[e]at this
 exact this
def yR (n z:Nat):Nat:=if 20≤n∧n≤24 then 8 else z
def nM (n z:Nat)(a b fl:Int):Int×Int:=
 if n≤8∨n=10 then vZ n z a b fl else if n=11∨n=12∨n=18∨n=19 then wX n z a fl
 else if 20≤n then iN n z a (bO b 1) fl else((qm n z a b fl).1,(qm n z a b fl).2.2)
def MS.rd0 (s:MS)(nx:Int)(o:Opd)(n:Nat):Int×MS:=if o.kind≠0 then s.rd nx o n else(0,s)
def MS.reck (s:MS)(nx fl:Int)(x:Ins)(n z:Nat):MS×Int:=
 let a:=s.rd nx x.dst z
 let b:=a.2.rd0 nx x.src (yR n z)
 let r:=nM n z a.1 b.1 fl
 (if n≠8∧n≠10 then b.2.wr nx x.dst z r.1 else b.2,r.2)
theorem pw {x:Ins}{n z:Nat}(hx:ExV x n)(hn:n≤24)(hz:x.size=z)(hz':b8 (z:Int)=true):fS ((x,()),())=some ((yR n z:Int),())∧sSz x n=(yR n z:Int):=by
 have hf:=hx.fr.2 (by omega)
 have h0:=(dq hz').1
 unfold fS cQ sSz yR
 dsimp only
 rw[hf,bc rfl,ce,aj,lT,aa,aa,hx.op,hz]
 dsimp only
 by_cases h:20≤n∧n≤24
 ·have hb:inB (n:Int) 20 24=true:=by unfold inB;simp;omega
  rw[hb,aH,aa,aH,if_pos h,if_pos h]
  exact⟨rfl,rfl⟩
 ·have hb:inB (n:Int) 20 24=false:=by unfold inB;simp;omega
  rw[hb,aj,aa,am (aq (by omega)),if_neg h,if_neg h,if_neg (by decide)]
  exact⟨rfl,rfl⟩
theorem D6 (n:Nat):iB (((n:Int),()),())=some (decide (1≤n∧n≤8∨n=10),()):=by
 unfold iB
 dsimp only
 rw[lT,aa]
 dsimp only
 have hb:inB (n:Int) 1 8=decide (1≤n∧n≤8):=by unfold inB;rw[Bool.eq_iff_iff];simp;omega
 have he:eqI (n:Int) 10=decide (n=10):=by unfold eqI;rw[Bool.eq_iff_iff];simp;omega
 rw[hb,he,Az,aa]
 congr 2
 rw[Bool.eq_iff_iff];simp
theorem D9 (n:Nat):iC (((n:Int),()),())=some (decide (n=11∨n=12∨n=18∨n=19),()):=by
 unfold iC
 dsimp only
 have he:∀j:Nat,eqI (n:Int) (j:Int)=decide (n=j):=fun j=>by unfold eqI;rw[Bool.eq_iff_iff];simp;omega
 have e1:=he 11
 have e2:=he 12
 have e3:=he 18
 have e4:=he 19
 rw[show((11:Nat):Int)=11 from rfl]at e1
 rw[show((12:Nat):Int)=12 from rfl]at e2
 rw[show((18:Nat):Int)=18 from rfl]at e3
 rw[show((19:Nat):Int)=19 from rfl]at e4
 rw[e1,e2,e3,e4,Az,aa,Az,aa,Az,aa]
 congr 2
 rw[Bool.eq_iff_iff];simp[or_assoc]
theorem wE (n:Nat):cQ (((n:Int),()),())=some (decide (20≤n∧n≤24),()):=by
 unfold cQ
 dsimp only
 rw[lT,aa]
 congr 2
 unfold inB;rw[Bool.eq_iff_iff];simp;omega
theorem rckV_ok {n z:Nat}{a b fl:Int}(hz:b8 (z:Int)=true)(ha:I64 a)(hI:I64 fl)(hf:bN fl=true):I64 (nM n z a b fl).1∧bN (nM n z a b fl).2=true∧I64 (nM n z a b fl).2:=by
 unfold nM
 split
 ·exact Aq hz ha
 split
 ·exact Cf hz hI hf
 split
 ·exact vB hz ha hI hf
 ·have:=s9 (op:=n) (n:=z) (a:=a) (b:=b) hI hf
  exact⟨this.1,this.2.2.1,this.2.2.2⟩
theorem reck_m {g:List Int}{m:List Page}{c:Int}{l:List Acc}{k:Nat}(hs:(MS.mk g m c l).ok k)(hk:k+3≤1000){x:Ins}{n z:Nat}(hx:ExV x n)(hn:n≤8∨10≤n∧n≤12∨17≤n∧n≤24)(hz:x.size=z)
  {fl:Int} (hI:I64 fl) (hf:bN fl=true) (nx:Int):
  ∃g' m' c' l' fl',(MS.mk g m c l).reck nx fl x n z=(⟨g',m',c',l'⟩,fl')∧(∀rip,cm ((x,()),((g,rip,fl,nx,c,()),m,l,()))=some ((),((g',rip,fl',nx,c',()),m',l',())))∧(MS.mk g' m' c' l').ok (k+3)∧I64 fl'∧bN fl'=true:=by
 have hz':b8 (z:Int)=true:=by rw[←hz];exact hx.szs.1 (by omega)
 have hkd:=hx.kd.1 (by omega)
 have hdv:=hx.dv
 have hsv:=hx.sv
 obtain⟨hss,hss2⟩:=pw hx (by omega) hz hz'
 rw[hz]at hdv
 rw[hss2]at hsv
 have hzs:b8 (yR n z:Int)=true:=by unfold yR;split;rfl;exact hz'
 obtain⟨v1,c1,l1,e1,r1,ok1,I1⟩:=qD hs (by omega) hz' hdv nx
 have hb:∃v2 c2 l2,(MS.mk g m c1 l1).rd0 nx x.src (yR n z)=(v2,⟨g,m,c2,l2⟩)∧(MS.mk g m c2 l2).ok (k+2)∧I64 v2∧(x.src.kind=0→v2=0∧c2=c1∧l2=l1)∧
   (x.src.kind≠0→∀rip fl,aw ((cL x.src (),((yR n z:Int),())),((g,rip,fl,nx,c1,()),m,l1,()))=some (v2,((g,rip,fl,nx,c2,()),m,l2,()))):=by
  unfold MS.rd0
  by_cases h0:x.src.kind=0
  ·rw[if_neg (by simpa using h0)]
   exact⟨0,c1,l1,rfl,ok1.mono (by omega),by unfold I64;omega,fun _=>⟨rfl,rfl,rfl⟩,fun h=>absurd h0 h⟩
  ·rw[if_pos h0]
   obtain⟨v2,c2,l2,e2,r2,ok2,I2⟩:=qD ok1 (by omega) hzs hsv nx
   exact⟨v2,c2,l2,e2,ok2,I2,fun h=>absurd h h0,fun _=>r2⟩
 obtain⟨v2,c2,l2,e2,ok2,I2,h20,h21⟩:=hb
 obtain⟨rI,rf,rfI⟩:=rckV_ok (n:=n) (b:=v2) hz' I1 hI hf
 have hw:∃g' m' c' l',(if n≠8∧n≠10 then(MS.mk g m c2 l2).wr nx x.dst z (nM n z v1 v2 fl).1 else(MS.mk g m c2 l2))=⟨g',m',c',l'⟩∧(MS.mk g' m' c' l').ok (k+3)∧
   (n≠8∧n≠10→∀rip fl',ap ((cL x.dst (),((z:Int),((nM n z v1 v2 fl).1,()))),((g,rip,fl',nx,c2,()),m,l2,()))=some ((),((g',rip,fl',nx,c',()),m',l',())))∧
   (¬(n≠8∧n≠10)→g'=g∧m'=m∧c'=c2∧l'=l2):=by
  by_cases h:n≠8∧n≠10
  ·rw[if_pos h]
   obtain⟨g',m',c',l',e3,r3,ok3⟩:=rj ok2 (by omega) hz' hdv hkd nx rI
   exact⟨g',m',c',l',e3,ok3,fun _=>r3,fun g=>absurd h g⟩
  ·rw[if_neg h]
   exact⟨g,m,c2,l2,rfl,ok2.mono (by omega),fun g=>absurd g h,fun _=>⟨rfl,rfl,rfl,rfl⟩⟩
 obtain⟨g',m',c',l',e3,ok3,w1,w2⟩:=hw
 refine⟨g',m',c',l',(nM n z v1 v2 fl).2,?_,fun rip=>?_,ok3,rfI,rf⟩
 ·unfold MS.reck
  dsimp only
  rw[e1]
  dsimp only
  rw[e2]
  dsimp only
  rw[e3]
 unfold cm
 dsimp only
 rw[hz,r1,aa]
 dsimp only
 refine(Ret.bnd (Q:=fun y=>y=Sum.inl ((v1,(v2,())),((g,rip,fl,nx,c2,()),(m,(l2,((dA x ()),())))))) ?_ ?_).eq
 ·by_cases h0:x.src.kind=0
  ·obtain⟨rfl,rfl,rfl⟩:=h20 h0
   rw[bc h0,ce,aj]
   exact Ret.some rfl
  ·rw[aq h0,cP,aH,hss,aa,h21 h0,aa]
   exact Ret.some rfl
 rintro _ rfl
 rw[ag]
 dsimp only[dA,cL]
 rw[hx.op,hz,D6,aa]
 dsimp only
 refine Ret.bnd (Q:=fun y=>y=Sum.inl (((nM n z v1 v2 fl).1,()),((g,rip,(nM n z v1 v2 fl).2,nx,c2,()),(m,(l2,((dA x ()),())))))) ?_ ?_
 ·have ex:(((n:Int),(z:Int),x.cond,x.frm,x.dst.kind,x.dst.reg,x.dst.base,x.dst.index,x.dst.scale,x.dst.disp,x.dst.imm,x.src.kind,x.src.reg,x.src.base,x.src.index,x.src.scale,x.src.disp,x.src.imm,x.len,()):Int×Int×Int×Int×Int×Int×Int×Int×Int×Int×Int×Int×Int×Int×Int×Int×Int×Int×Int×Unit)=dA x ():=by
   rw[←hx.op,←hz];rfl
  unfold nM
  by_cases ha:n≤8∨n=10
  ·have h1:=hx.n1
   rw[decide_eq_true (by omega),aH,if_pos ha,alu_eq hz' I1 I2,aa]
   dsimp only
   exact Ret.some (by rw[ex])
  ·rw[decide_eq_false (by omega),aj,if_neg ha,D9,aa]
   dsimp only
   refine Ret.bnd (Q:=fun y=>y=Sum.inl (((nM n z v1 v2 fl).1,()),((g,rip,(nM n z v1 v2 fl).2,nx,c2,()),(m,(l2,((dA x ()),())))))) ?_ ?_
   ·unfold nM
    rw[if_neg ha]
    by_cases h1:n=11∨n=12∨n=18∨n=19
    ·rw[decide_eq_true h1,aH,if_pos h1,one_eq hz' I1,aa]
     dsimp only
     exact Ret.some (by rw[ex])
    ·rw[decide_eq_false h1,aj,if_neg h1,wE,aa]
     dsimp only
     refine Ret.bnd (Q:=fun y=>y=Sum.inl (((nM n z v1 v2 fl).1,()),((g,rip,(nM n z v1 v2 fl).2,nx,c2,()),(m,(l2,((dA x ()),())))))) ?_ ?_
     ·unfold nM
      rw[if_neg ha,if_neg h1]
      by_cases h2:20≤n
      ·rw[decide_eq_true (by omega),aH,if_pos h2,show(1:Int)=((1:Nat):Int)from rfl,bG _ 1 rfl,aa,Fp (by omega) hz' I1 hI hf,aa]
       dsimp only
       exact Ret.some (by rw[ex])
      ·rw[decide_eq_false (by omega),aj,if_neg h2,qn hz' I1 I2 hI hf,aa]
       dsimp only
       exact Ret.some (by rw[ex])
     ·rintro _ rfl
      rw[ag]
      exact Ret.some (by unfold nM;rw[if_neg ha,if_neg h1])
   ·rintro _ rfl
    rw[ag]
    exact Ret.some (by unfold nM;rw[if_neg ha])
 rintro _ rfl
 rw[ag]
 dsimp only[dA,cL,cp7]
 rw[hx.op,hz]
 have hbr:br (aX (eqI (n:Int) 8)) (some (aX (eqI (n:Int) 10))) (some false)=some (decide (n≠8∧n≠10)):=by
  by_cases a8:n=8
  ·rw[bc (by omega),ce,aj,decide_eq_false (by omega)]
  ·rw[aq (by omega),cP,aH]
   by_cases a10:n=10
   ·rw[bc (by omega),ce,decide_eq_false (by omega)]
   ·rw[aq (by omega),cP,decide_eq_true (by omega)]
 rw[hbr,aa]
 by_cases h:n≠8∧n≠10
 ·rw[decide_eq_true h,aH]
  have hw:=w1 h rip (nM n z v1 v2 fl).2
  unfold cL at hw
  rw[hw,aa]
  exact Ret.some rfl
 ·obtain⟨rfl,rfl,rfl,rfl⟩:=w2 h
  rw[decide_eq_false h,aj]
  exact Ret.some rfl
end
set_option linter.unusedSectionVars false
noncomputable section
def MS.flow (s:MS)(rip fl nx:Int)(x:Ins)(n:Nat):MS×Int:=
 if n=29 then((s.rd nx x.src 8).2.pu (s.rd nx x.src 8).1,rip)
 else if n=30 then(s.po.2.wr nx x.dst 8 s.po.1,rip)
 else if n=31 then((s.go nx x).2.pu nx,(s.go nx x).1)
 else if n=34 then(s.po.2,s.po.1)
 else if n=32 then((s.go nx x).2,(s.go nx x).1)
 else if n=33 then(if il x.cond fl=true then((s.go nx x).2,(s.go nx x).1)else(s,rip))
 else if n=41 then({s.st (rg s.g 7) 1 (rg s.g 0)with g:=setA s.g 7 (aG .i64 (rg s.g 7) 1)},rip)
 else if n=42 then({(s.ld (rg s.g 6) 1).2.st (rg s.g 7) 1 (s.ld (rg s.g 6) 1).1 with g:=setA (setA s.g 6 (aG .i64 (rg s.g 6) 1)) 7 (aG .i64 (rg (setA s.g 6 (aG .i64 (rg s.g 6) 1)) 7) 1)},rip)
 else if n=38 then({s with code:=17},rip)
 else if n=43∨n=44 then({s with code:=18},rip)
 else(s,rip)
section
variable {g:List Int}{m:List Page}{c:Int}{l:List Acc}{k:Nat}(hs:(MS.mk g m c l).ok k)(hk:k+3≤1000){x:Ins}
include hs hk
theorem flow_29 (hx:ExV x 29)(rip fl nx:Int):∃g' m' c' l' rip',(MS.mk g m c l).flow rip fl nx x 29=(⟨g',m',c',l'⟩,rip')∧an ((x,()),((g,rip,fl,nx,c,()),m,l,()))=some ((),((g',rip',fl,nx,c',()),m',l',()))∧(MS.mk g' m' c' l').ok (k+3):=by
 unfold MS.flow an
 dsimp only
 have hop:=hx.op
 have hsv:=hx.sv
 rw[show sSz x 29=x.size from by unfold sSz;rw[if_neg (by decide),hx.fr.2 (by decide),if_neg (by decide)],hx.szs.2.2.1 (by decide)]at hsv
 obtain⟨v1,c1,l1,e1,r1,ok1,I1⟩:=qD hs (by omega) (n:=8) rfl hsv nx
 obtain⟨g',m',c',l',e2,r2,ok2⟩:=pu_ex ok1 (by omega) v1
 have r1':aw ((cL x.src (),(8,())),((g,rip,fl,nx,c,()),m,l,()))=_:=r1 rip fl
 rw[if_pos rfl,e1,hop,bc (by omega),aH,r1',aa,r2,aa]
 exact⟨g',m',c',l',rip,by dsimp only;rw[e2],rfl,ok2.mono (by omega)⟩
theorem flow_30 (hx:ExV x 30)(rip fl nx:Int):∃g' m' c' l' rip',(MS.mk g m c l).flow rip fl nx x 30=(⟨g',m',c',l'⟩,rip')∧an ((x,()),((g,rip,fl,nx,c,()),m,l,()))=some ((),((g',rip',fl,nx,c',()),m',l',()))∧(MS.mk g' m' c' l').ok (k+3):=by
 unfold MS.flow an
 dsimp only
 have hop:=hx.op
 have hdv:=hx.dv
 rw[hx.szs.2.2.1 (by decide)]at hdv
 obtain⟨v1,g1,m1,c1,l1,e1,r1,ok1,I1⟩:=po_ex hs (by omega)
 obtain⟨g',m',c',l',e2,r2,ok2⟩:=rj ok1 (by omega) (n:=8) rfl hdv (hx.kd.1 (by decide)) nx I1
 have r2':ap ((cL x.dst (),(8,(v1,()))),((g1,rip,fl,nx,c1,()),m1,l1,()))=_:=r2 rip fl
 rw[if_neg (by decide),if_pos rfl,e1,hop,aq (by omega),aj,bc (by omega),aH,r1,aa]
 dsimp only
 rw[r2',aa]
 exact⟨g',m',c',l',rip,by rw[e2],rfl,ok2.mono (by omega)⟩
theorem flow_31 (hx:ExV x 31)(rip fl nx:Int):∃g' m' c' l' rip',(MS.mk g m c l).flow rip fl nx x 31=(⟨g',m',c',l'⟩,rip')∧an ((x,()),((g,rip,fl,nx,c,()),m,l,()))=some ((),((g',rip',fl,nx,c',()),m',l',()))∧(MS.mk g' m' c' l').ok (k+3):=by
 unfold MS.flow an
 dsimp only
 have hop:=hx.op
 have hsv:=hx.sv
 rw[show sSz x 31=x.size from by unfold sSz;rw[if_neg (by decide),hx.fr.2 (by decide),if_neg (by decide)],hx.szs.2.2.1 (by decide)]at hsv
 obtain⟨v1,c1,l1,e1,r1,ok1,I1⟩:=go_ex hs (by omega) hsv nx
 obtain⟨g',m',c',l',e2,r2,ok2⟩:=pu_ex ok1 (by omega) nx
 rw[if_neg (by decide),if_neg (by decide),if_pos rfl,e1,hop,aq (by omega),aj,aq (by omega),aj,bc (by omega),aH,r1,aa]
 dsimp only
 rw[r2,aa]
 exact⟨g',m',c',l',v1,by rw[e2],rfl,ok2.mono (by omega)⟩
theorem flow_34 (hx:ExV x 34)(rip fl nx:Int):∃g' m' c' l' rip',(MS.mk g m c l).flow rip fl nx x 34=(⟨g',m',c',l'⟩,rip')∧an ((x,()),((g,rip,fl,nx,c,()),m,l,()))=some ((),((g',rip',fl,nx,c',()),m',l',()))∧(MS.mk g' m' c' l').ok (k+3):=by
 unfold MS.flow an
 dsimp only
 have hop:=hx.op
 obtain⟨v1,g1,m1,c1,l1,e1,r1,ok1,I1⟩:=po_ex hs (by omega)
 rw[if_neg (by decide),if_neg (by decide),if_neg (by decide),if_pos rfl,e1,hop,aq (by omega),aj,aq (by omega),aj,aq (by omega),aj,bc (by omega),aH,r1,aa]
 exact⟨g1,m1,c1,l1,v1,rfl,rfl,ok1.mono (by omega)⟩
theorem flow_32 (hx:ExV x 32)(rip fl nx:Int):∃g' m' c' l' rip',(MS.mk g m c l).flow rip fl nx x 32=(⟨g',m',c',l'⟩,rip')∧an ((x,()),((g,rip,fl,nx,c,()),m,l,()))=some ((),((g',rip',fl,nx,c',()),m',l',()))∧(MS.mk g' m' c' l').ok (k+3):=by
 unfold MS.flow an
 dsimp only
 have hop:=hx.op
 have hsv:=hx.sv
 rw[show sSz x 32=x.size from by unfold sSz;rw[if_neg (by decide),hx.fr.2 (by decide),if_neg (by decide)],hx.szs.2.2.1 (by decide)]at hsv
 obtain⟨v1,c1,l1,e1,r1,ok1,I1⟩:=go_ex hs (by omega) hsv nx
 rw[if_neg (by decide),if_neg (by decide),if_neg (by decide),if_neg (by decide),if_pos rfl,e1,hop,aq (by omega),aj,aq (by omega),aj,aq (by omega),aj,aq (by omega),aj,bc (by omega),aH,r1,aa]
 exact⟨g,m,c1,l1,v1,rfl,rfl,ok1.mono (by omega)⟩
theorem flow_33 (hx:ExV x 33)(rip fl nx:Int):∃g' m' c' l' rip',(MS.mk g m c l).flow rip fl nx x 33=(⟨g',m',c',l'⟩,rip')∧an ((x,()),((g,rip,fl,nx,c,()),m,l,()))=some ((),((g',rip',fl,nx,c',()),m',l',()))∧(MS.mk g' m' c' l').ok (k+3):=by
 unfold MS.flow an
 dsimp only
 have hop:=hx.op
 have hk3:=hx.kd.2.2.2.2.2.2.2.1 rfl
 have hgo:∀s:MS,s.go nx x=(aG .i64 nx x.src.imm,s):=fun s=>if_pos hk3
 have hg2:bw ((x,()),((g,rip,fl,nx,c,()),m,l,()))=some (aG .i64 nx x.src.imm,((g,rip,fl,nx,c,()),m,l,())):=by
  unfold bw
  dsimp only
  rw[bc hk3,aH]
 rw[if_neg (by decide),if_neg (by decide),if_neg (by decide),if_neg (by decide),if_neg (by decide),if_pos rfl,hgo,hop,aq (by omega),aj,aq (by omega),aj,aq (by omega),aj,aq (by omega),aj,aq (by omega),aj,bc (by omega),aH,sO hx.c0 hx.c1,aa]
 dsimp only
 by_cases hh:il x.cond fl=true
 ·rw[hh,aH,hg2,aa,if_pos rfl]
  exact⟨g,m,c,l,_,rfl,rfl,hs.mono (by omega)⟩
 ·rw[Bool.eq_false_iff.2 hh,aj,if_neg (by decide)]
  exact⟨g,m,c,l,_,rfl,rfl,hs.mono (by omega)⟩
theorem flow_41 (hx:ExV x 41)(rip fl nx:Int):∃g' m' c' l' rip',(MS.mk g m c l).flow rip fl nx x 41=(⟨g',m',c',l'⟩,rip')∧an ((x,()),((g,rip,fl,nx,c,()),m,l,()))=some ((),((g',rip',fl,nx,c',()),m',l',()))∧(MS.mk g' m' c' l').ok (k+3):=by
 unfold MS.flow an
 dsimp only
 have hop:=hx.op
 obtain⟨m',c',l',e1,r1,ok1⟩:=st_ex hs (by omega) (hs.g 7) (n:=1) rfl (rg g 0)
 have r1':aC ((aQ g 7 (aB .i),(1,(aQ g 0 (aB .i),()))),((g,rip,fl,nx,c,()),m,l,()))=_:=r1 rip fl nx
 rw[if_neg (by decide),if_neg (by decide),if_neg (by decide),if_neg (by decide),if_neg (by decide),if_neg (by decide),if_pos rfl,e1,hop,aq (by omega),aj,aq (by omega),aj,aq (by omega),aj,aq (by omega),aj,aq (by omega),aj,aq (by omega),aj,bc (by omega),aH,r1',aa]
 exact⟨_,m',c',l',rip,rfl,rfl,(ok1.setA (ar _)).mono (by omega)⟩
theorem flow_42 (hx:ExV x 42)(rip fl nx:Int):∃g' m' c' l' rip',(MS.mk g m c l).flow rip fl nx x 42=(⟨g',m',c',l'⟩,rip')∧an ((x,()),((g,rip,fl,nx,c,()),m,l,()))=some ((),((g',rip',fl,nx,c',()),m',l',()))∧(MS.mk g' m' c' l').ok (k+3):=by
 unfold MS.flow an
 dsimp only
 have hop:=hx.op
 obtain⟨v1,c1,l1,e1,r1,ok1,I1⟩:=ld_ex hs (by omega) (hs.g 6) (n:=1) rfl
 obtain⟨m',c',l',e2,r2,ok2⟩:=st_ex ok1 (by omega) (hs.g 7) (n:=1) rfl v1
 have r1':aL ((aQ g 6 (aB .i),(1,())),((g,rip,fl,nx,c,()),m,l,()))=_:=r1 rip fl nx
 have r2':aC ((aQ g 7 (aB .i),(1,(v1,()))),((g,rip,fl,nx,c1,()),m,l1,()))=_:=r2 rip fl nx
 rw[if_neg (by decide),if_neg (by decide),if_neg (by decide),if_neg (by decide),if_neg (by decide),if_neg (by decide),if_neg (by decide),if_pos rfl,e1,hop,aq (by omega),aj,aq (by omega),aj,aq (by omega),aj,aq (by omega),aj,aq (by omega),aj,aq (by omega),aj,aq (by omega),aj,bc (by omega),aH,r1',aa]
 dsimp only
 rw[r2',aa,e2]
 exact⟨_,m',c',l',rip,rfl,rfl,((ok2.setA (ar _)).setA (ar _)).mono (by omega)⟩
theorem flow_38 (hx:ExV x 38)(rip fl nx:Int):∃g' m' c' l' rip',(MS.mk g m c l).flow rip fl nx x 38=(⟨g',m',c',l'⟩,rip')∧an ((x,()),((g,rip,fl,nx,c,()),m,l,()))=some ((),((g',rip',fl,nx,c',()),m',l',()))∧(MS.mk g' m' c' l').ok (k+3):=by
 unfold MS.flow an
 dsimp only
 have hop:=hx.op
 rw[if_neg (by decide),if_neg (by decide),if_neg (by decide),if_neg (by decide),if_neg (by decide),if_neg (by decide),if_neg (by decide),if_neg (by decide),if_pos rfl,hop,aq (by omega),aj,aq (by omega),aj,aq (by omega),aj,aq (by omega),aj,aq (by omega),aj,aq (by omega),aj,aq (by omega),aj,aq (by omega),aj,bc (by omega),aH]
 exact⟨g,m,17,l,rip,rfl,rfl,⟨hs.m,Nat.le_trans hs.l (by omega),hs.g⟩⟩
theorem flow_43 (hx:ExV x 43)(rip fl nx:Int):∃g' m' c' l' rip',(MS.mk g m c l).flow rip fl nx x 43=(⟨g',m',c',l'⟩,rip')∧an ((x,()),((g,rip,fl,nx,c,()),m,l,()))=some ((),((g',rip',fl,nx,c',()),m',l',()))∧(MS.mk g' m' c' l').ok (k+3):=by
 unfold MS.flow an
 dsimp only
 have hop:=hx.op
 rw[if_neg (by decide),if_neg (by decide),if_neg (by decide),if_neg (by decide),if_neg (by decide),if_neg (by decide),if_neg (by decide),if_neg (by decide),if_neg (by decide),if_pos (by decide),hop,aq (by omega),aj,aq (by omega),aj,aq (by omega),aj,aq (by omega),aj,aq (by omega),aj,aq (by omega),aj,aq (by omega),aj,aq (by omega),aj,aq (by omega),aj]
 rw[show eqI ((43:Nat):Int) 43=true from rfl,aH,aa,ag]
 exact⟨g,m,18,l,rip,rfl,rfl,⟨hs.m,Nat.le_trans hs.l (by omega),hs.g⟩⟩
theorem flow_44 (hx:ExV x 44)(rip fl nx:Int):∃g' m' c' l' rip',(MS.mk g m c l).flow rip fl nx x 44=(⟨g',m',c',l'⟩,rip')∧an ((x,()),((g,rip,fl,nx,c,()),m,l,()))=some ((),((g',rip',fl,nx,c',()),m',l',()))∧(MS.mk g' m' c' l').ok (k+3):=by
 unfold MS.flow an
 dsimp only
 have hop:=hx.op
 rw[if_neg (by decide),if_neg (by decide),if_neg (by decide),if_neg (by decide),if_neg (by decide),if_neg (by decide),if_neg (by decide),if_neg (by decide),if_neg (by decide),if_pos (by decide),hop,aq (by omega),aj,aq (by omega),aj,aq (by omega),aj,aq (by omega),aj,aq (by omega),aj,aq (by omega),aj,aq (by omega),aj,aq (by omega),aj,aq (by omega),aj]
 rw[show eqI ((44:Nat):Int) 43=false from rfl,aj,aa,ag,show eqI ((44:Nat):Int) 44=true from rfl]
 exact⟨g,m,18,l,rip,rfl,rfl,⟨hs.m,Nat.le_trans hs.l (by omega),hs.g⟩⟩
theorem flow_37 (hx:ExV x 37)(rip fl nx:Int):∃g' m' c' l' rip',(MS.mk g m c l).flow rip fl nx x 37=(⟨g',m',c',l'⟩,rip')∧an ((x,()),((g,rip,fl,nx,c,()),m,l,()))=some ((),((g',rip',fl,nx,c',()),m',l',()))∧(MS.mk g' m' c' l').ok (k+3):=by
 unfold MS.flow an
 dsimp only
 have hop:=hx.op
 rw[if_neg (by decide),if_neg (by decide),if_neg (by decide),if_neg (by decide),if_neg (by decide),if_neg (by decide),if_neg (by decide),if_neg (by decide),if_neg (by decide),if_neg (by decide),hop,aq (by omega),aj,aq (by omega),aj,aq (by omega),aj,aq (by omega),aj,aq (by omega),aj,aq (by omega),aj,aq (by omega),aj,aq (by omega),aj,aq (by omega),aj]
 rw[show eqI ((37:Nat):Int) 43=false from rfl,aj,aa,ag,show eqI ((37:Nat):Int) 44=false from rfl]
 exact⟨g,m,c,l,rip,rfl,rfl,hs.mono (by omega)⟩
end
end
set_option linter.unusedSectionVars false
set_option linter.unusedVariables false
noncomputable section
theorem CA {g:List Int}{r v:Int}{n:Nat}(hn:b8 (n:Int)=true)(h15:r≤15){α:Type}(Z:List Int→Option α):
  (br (leI 4 (n:Int)) (bnd (ae ((v,((n:Int),())),())) (fun x32=>Z (cr (dP 16 (aB .i) g) r x32.1))) (bnd (ae ((v,((n:Int),())),())) (fun x33=>(bnd (ae (((aQ g r (aB .i)),((n:Int),())),())) (fun x34=>Z (cr (dP 16 (aB .i) g) r (aG .i64 (aQ g r (aB .i)) (aV .i64 x33.1 x34.1))))))))=Z (qM g r n v):=by
 unfold qM Go.Den.G.setA
 rw[if_neg (by omega),bG _ n hn,bG _ n hn,aa,aa,aa]
 by_cases h4:4≤n
 ·rw[af (eY (by omega)),if_pos h4]
 ·rw[am (jI (by omega)),if_neg h4]
theorem pW:aF ((0,()),())=some (false,()):=lv 0
theorem isHigh2:aF ((2,()),())=some (false,()):=lv 2
theorem r6 {g:List Int}{r:Int}{n:Nat}(h:¬16≤r):bO (aQ g r (aB .i)) n=jQ g r n:=by
 unfold jQ
 rw[if_neg h]
def MS.move (s:MS)(fl nx:Int)(x:Ins)(n z:Nat):MS:=
 if n=9 then(s.rd nx x.src z).2.wr nx x.dst z (s.rd nx x.src z).1
 else if n=28 then
  let a:=s.rd nx x.dst z
  let b:=a.2.rd nx x.src z
  (b.2.wr nx x.dst z b.1).wr nx x.src z a.1
 else if n=25 then s.wr nx x.dst z (ml s.g nx x.src)
 else if n=26 then(s.rd nx x.src x.frm.toNat).2.wr nx x.dst z (s.rd nx x.src x.frm.toNat).1
 else if n=27 then(s.rd nx x.src x.frm.toNat).2.wr nx x.dst z (sx (8*x.frm.toNat-1) (s.rd nx x.src x.frm.toNat).1)
 else if n=35 then s.wr nx x.dst 1 (if il x.cond fl=true then 1 else 0)
 else if n=36 then
  let a:=s.rd nx x.src z
  let b:=if il x.cond fl=true then a else a.2.rd nx x.dst z
  b.2.wr nx x.dst z b.1
 else if n=39 then {s with g:=qM s.g 0 z (sx (8*(z/2)-1) (jQ s.g 0 (z/2)))}
 else if n=40 then {s with g:=qM s.g 2 z (cf .i64 (sx (8*z-1) (jQ s.g 0 z)) 63)}
 else s
section
variable {g:List Int}{m:List Page}{c:Int}{l:List Acc}{k:Nat}(hs:(MS.mk g m c l).ok k)(hk:k+4≤1000){x:Ins}{z:Nat}
include hs hk
theorem move_9 (hx:ExV x 9)(hz:x.size=z)(rip fl nx:Int):∃g' m' c' l',(MS.mk g m c l).move fl nx x 9 z=⟨g',m',c',l'⟩∧aA ((x,()),((g,rip,fl,nx,c,()),m,l,()))=some ((),((g',rip,fl,nx,c',()),m',l',()))∧(MS.mk g' m' c' l').ok (k+4):=by
 unfold MS.move aA
 dsimp only
 have hop:=hx.op
 have hz':b8 (z:Int)=true:=by rw[←hz];exact hx.szs.1 (by decide)
 have hdv:=hx.dv
 rw[hz]at hdv
 have hsv:=hx.sv
 rw[show sSz x 9=x.size from by unfold sSz;rw[if_neg (by decide),hx.fr.2 (by decide),if_neg (by decide)],hz]at hsv
 obtain⟨v1,c1,l1,e1,r1,ok1,I1⟩:=qD hs (by omega) hz' hsv nx
 obtain⟨g',m',c',l',e2,r2,ok2⟩:=rj ok1 (by omega) hz' hdv (hx.kd.1 (by decide)) nx I1
 rw[if_pos rfl,e1,hop,hz,bc (by omega),aH,r1,aa]
 dsimp only
 rw[r2,aa]
 exact⟨g',m',c',l',e2,rfl,ok2.mono (by omega)⟩
theorem move_28 (hx:ExV x 28)(hz:x.size=z)(rip fl nx:Int):∃g' m' c' l',(MS.mk g m c l).move fl nx x 28 z=⟨g',m',c',l'⟩∧aA ((x,()),((g,rip,fl,nx,c,()),m,l,()))=some ((),((g',rip,fl,nx,c',()),m',l',()))∧(MS.mk g' m' c' l').ok (k+4):=by
 unfold MS.move aA
 dsimp only
 have hop:=hx.op
 have hz':b8 (z:Int)=true:=by rw[←hz];exact hx.szs.1 (by decide)
 have hdv:=hx.dv
 rw[hz]at hdv
 have hsv:=hx.sv
 rw[show sSz x 28=x.size from by unfold sSz;rw[if_neg (by decide),hx.fr.2 (by decide),if_neg (by decide)],hz]at hsv
 have hsk:x.src.kind=1∨x.src.kind=2:= .inl (hx.kd.2.1 rfl)
 obtain⟨v1,c1,l1,e1,r1,ok1,I1⟩:=qD hs (by omega) hz' hdv nx
 obtain⟨v2,c2,l2,e2,r2,ok2,I2⟩:=qD ok1 (by omega) hz' hsv nx
 obtain⟨g3,m3,c3,l3,e3,r3,ok3⟩:=rj ok2 (by omega) hz' hdv (hx.kd.1 (by decide)) nx I2
 obtain⟨g',m',c',l',e4,r4,ok4⟩:=rj ok3 (by omega) hz' hsv hsk nx I1
 rw[if_neg (by decide),if_pos rfl,e1,hop,hz,aq (by omega),aj,bc (by omega),aH,r1,aa]
 dsimp only
 rw[e2,r2,aa]
 dsimp only
 rw[e3,r3,aa]
 dsimp only
 rw[e4,r4,aa]
 exact⟨g',m',c',l',rfl,rfl,ok4⟩
theorem move_25 (hx:ExV x 25)(hz:x.size=z)(rip fl nx:Int):∃g' m' c' l',(MS.mk g m c l).move fl nx x 25 z=⟨g',m',c',l'⟩∧aA ((x,()),((g,rip,fl,nx,c,()),m,l,()))=some ((),((g',rip,fl,nx,c',()),m',l',()))∧(MS.mk g' m' c' l').ok (k+4):=by
 unfold MS.move aA
 dsimp only
 have hop:=hx.op
 have hz':b8 (z:Int)=true:=by rw[←hz];exact hx.szs.1 (by decide)
 have hdv:=hx.dv
 rw[hz]at hdv
 have hsv:=hx.sv
 have hb:=hsv.b (hx.kd.2.2.1 rfl).2
 obtain⟨g',m',c',l',e2,r2,ok2⟩:=rj hs (by omega) hz' hdv (hx.kd.1 (by decide)) nx (kI (g:=g) (nx:=nx) hsv)
 have hfin:∀a:Int,a=ml g nx x.src→(bnd (ap ((cL x.dst (),((z:Int),(a,()))),((g,rip,fl,nx,c,()),m,l,()))) (fun x8=>(some ((),((x8.2.1.1,(rip,(fl,(nx,x8.2.1.2.2.2.2)))),x8.2.2)))))=some ((),((g',rip,fl,nx,c',()),m',l',())):=by
  rintro _ rfl
  rw[r2,aa]
 rw[if_neg (by decide),if_neg (by decide),if_pos rfl,hop,hz,aq (by omega),aj,aq (by omega),aj,bc (by omega),aH]
 refine⟨g',m',c',l',e2,?_,ok2.mono (by omega)⟩
 by_cases b16:x.src.base=16
 ·rw[bc b16,aH]
  by_cases hi:0≤x.src.index
  ·rw[af (eY hi),af (cH hi (by omega))]
   exact hfin _ (by unfold ml;dsimp only;rw[if_pos b16,if_pos hi])
  ·rw[am (jI hi)]
   exact hfin _ (by unfold ml;dsimp only;rw[if_pos b16,if_neg hi])
 ·rw[aq b16,aj]
  by_cases hb0:0≤x.src.base
  ·rw[af (eY hb0),af (cH hb0 (by omega))]
   by_cases hi:0≤x.src.index
   ·rw[af (eY hi),af (cH hi (by omega))]
    exact hfin _ (by unfold ml;dsimp only;rw[if_neg b16,if_pos hb0,if_pos hi])
   ·rw[am (jI hi)]
    exact hfin _ (by unfold ml;dsimp only;rw[if_neg b16,if_pos hb0,if_neg hi])
  ·rw[am (jI hb0)]
   by_cases hi:0≤x.src.index
   ·rw[af (eY hi),af (cH hi (by omega))]
    exact hfin _ (by unfold ml;dsimp only;rw[if_neg b16,if_neg hb0,if_pos hi])
   ·rw[am (jI hi)]
    exact hfin _ (by unfold ml;dsimp only;rw[if_neg b16,if_neg hb0,if_neg hi])
theorem move_26 (hx:ExV x 26)(hz:x.size=z)(rip fl nx:Int):∃g' m' c' l',(MS.mk g m c l).move fl nx x 26 z=⟨g',m',c',l'⟩∧aA ((x,()),((g,rip,fl,nx,c,()),m,l,()))=some ((),((g',rip,fl,nx,c',()),m',l',()))∧(MS.mk g' m' c' l').ok (k+4):=by
 unfold MS.move aA
 dsimp only
 have hop:=hx.op
 have hz':b8 (z:Int)=true:=by rw[←hz];exact hx.szs.1 (by decide)
 have hdv:=hx.dv
 rw[hz]at hdv
 obtain⟨f,hf,hf'⟩:=ph (hx.fr.1 (by decide))
 have hsv:=hx.sv
 rw[show sSz x 26=x.frm from by unfold sSz;rw[if_neg (by decide),if_pos (by rw[hf];have:=(dq hf').1;omega)],hf]at hsv
 have hfn:x.frm.toNat=f:=by rw[hf,Int.toNat_natCast]
 obtain⟨v1,c1,l1,e1,r1,ok1,I1⟩:=qD hs (by omega) hf' hsv nx
 obtain⟨g',m',c',l',e2,r2,ok2⟩:=rj ok1 (by omega) hz' hdv (hx.kd.1 (by decide)) nx I1
 rw[if_neg (by decide),if_neg (by decide),if_neg (by decide),if_pos rfl,hfn,e1,hop,hz,hf,aq (by omega),aj,aq (by omega),aj,aq (by omega),aj,bc (by omega),aH,r1,aa]
 dsimp only
 rw[r2,aa]
 exact⟨g',m',c',l',e2,rfl,ok2.mono (by omega)⟩
theorem move_27 (hx:ExV x 27)(hz:x.size=z)(rip fl nx:Int):∃g' m' c' l',(MS.mk g m c l).move fl nx x 27 z=⟨g',m',c',l'⟩∧aA ((x,()),((g,rip,fl,nx,c,()),m,l,()))=some ((),((g',rip,fl,nx,c',()),m',l',()))∧(MS.mk g' m' c' l').ok (k+4):=by
 unfold MS.move aA
 dsimp only
 have hop:=hx.op
 have hz':b8 (z:Int)=true:=by rw[←hz];exact hx.szs.1 (by decide)
 have hdv:=hx.dv
 rw[hz]at hdv
 obtain⟨f,hf,hf'⟩:=ph (hx.fr.1 (by decide))
 have hsv:=hx.sv
 rw[show sSz x 27=x.frm from by unfold sSz;rw[if_neg (by decide),if_pos (by rw[hf];have:=(dq hf').1;omega)],hf]at hsv
 have hfn:x.frm.toNat=f:=by rw[hf,Int.toNat_natCast]
 obtain⟨h1,h8⟩:=dq hf'
 obtain⟨v1,c1,l1,e1,r1,ok1,I1⟩:=qD hs (by omega) hf' hsv nx
 obtain⟨g',m',c',l',e2,r2,ok2⟩:=rj ok1 (by omega) hz' hdv (hx.kd.1 (by decide)) nx (gy (8*f-1) (by omega) v1)
 rw[if_neg (by decide),if_neg (by decide),if_neg (by decide),if_neg (by decide),if_pos rfl,hfn,e1,hop,hz,hf,aq (by omega),aj,aq (by omega),aj,aq (by omega),aj,aq (by omega),aj,bc (by omega),aH,r1,aa]
 dsimp only
 rw[lL _ _ (by omega) (by omega),aa,show(8*(f:Int)-1).toNat=8*f-1 by omega,r2,aa]
 exact⟨g',m',c',l',e2,rfl,ok2.mono (by omega)⟩
theorem move_35 (hx:ExV x 35)(hz:x.size=z)(rip fl nx:Int):∃g' m' c' l',(MS.mk g m c l).move fl nx x 35 z=⟨g',m',c',l'⟩∧aA ((x,()),((g,rip,fl,nx,c,()),m,l,()))=some ((),((g',rip,fl,nx,c',()),m',l',()))∧(MS.mk g' m' c' l').ok (k+4):=by
 unfold MS.move aA
 dsimp only
 have hop:=hx.op
 have hdv:=hx.dv
 rw[hx.szs.2.2.2.1 rfl]at hdv
 obtain⟨g',m',c',l',e2,r2,ok2⟩:=rj hs (by omega) (n:=1) rfl hdv (hx.kd.1 (by decide)) nx (v:=if il x.cond fl=true then 1 else 0) (by split<;>(unfold I64;omega))
 have r2':ap ((cL x.dst (),(1,(if il x.cond fl=true then 1 else 0,()))),((g,rip,fl,nx,c,()),m,l,()))=_:=r2 rip fl
 rw[if_neg (by decide),if_neg (by decide),if_neg (by decide),if_neg (by decide),if_neg (by decide),if_pos rfl,hop,aq (by omega),aj,aq (by omega),aj,aq (by omega),aj,aq (by omega),aj,aq (by omega),aj,bc (by omega),aH,sO hx.c0 hx.c1,aa]
 dsimp only
 rw[gA,aa,r2',aa]
 exact⟨g',m',c',l',e2,rfl,ok2.mono (by omega)⟩
theorem move_36 (hx:ExV x 36)(hz:x.size=z)(rip fl nx:Int):∃g' m' c' l',(MS.mk g m c l).move fl nx x 36 z=⟨g',m',c',l'⟩∧aA ((x,()),((g,rip,fl,nx,c,()),m,l,()))=some ((),((g',rip,fl,nx,c',()),m',l',()))∧(MS.mk g' m' c' l').ok (k+4):=by
 unfold MS.move aA
 dsimp only
 have hop:=hx.op
 have hz':b8 (z:Int)=true:=by rw[←hz];exact hx.szs.1 (by decide)
 have hdv:=hx.dv
 rw[hz]at hdv
 have hsv:=hx.sv
 rw[show sSz x 36=x.size from by unfold sSz;rw[if_neg (by decide),hx.fr.2 (by decide),if_neg (by decide)],hz]at hsv
 obtain⟨v1,c1,l1,e1,r1,ok1,I1⟩:=qD hs (by omega) hz' hsv nx
 have hb:∃v2 c2 l2,(if il x.cond fl=true then(v1,MS.mk g m c1 l1)else(MS.mk g m c1 l1).rd nx x.dst z)=(v2,MS.mk g m c2 l2)∧(MS.mk g m c2 l2).ok (k+2)∧I64 v2∧
   (il x.cond fl=true→v2=v1∧c2=c1∧l2=l1)∧(il x.cond fl=false→∀rip fl,aw ((cL x.dst (),((z:Int),())),((g,rip,fl,nx,c1,()),m,l1,()))=some (v2,((g,rip,fl,nx,c2,()),m,l2,()))):=by
  by_cases hh:il x.cond fl=true
  ·rw[if_pos hh]
   exact⟨v1,c1,l1,rfl,ok1.mono (by omega),I1,fun _=>⟨rfl,rfl,rfl⟩,fun h=>by rw[hh]at h;cases h⟩
  ·rw[if_neg hh]
   obtain⟨v2,c2,l2,e2,r2,ok2,I2⟩:=qD ok1 (by omega) hz' hdv nx
   exact⟨v2,c2,l2,e2,ok2,I2,fun h=>absurd h hh,fun _=>r2⟩
 obtain⟨v2,c2,l2,e2,ok2,I2,t1,t2⟩:=hb
 obtain⟨g',m',c',l',e3,r3,ok3⟩:=rj ok2 (by omega) hz' hdv (hx.kd.1 (by decide)) nx I2
 rw[if_neg (by decide),if_neg (by decide),if_neg (by decide),if_neg (by decide),if_neg (by decide),if_neg (by decide),if_pos rfl,e1,hop,hz,aq (by omega),aj,aq (by omega),aj,aq (by omega),aj,aq (by omega),aj,aq (by omega),aj,aq (by omega),aj,bc (by omega),aH,r1,aa,sO hx.c0 hx.c1,aa]
 dsimp only
 rw[e2]
 dsimp only
 refine⟨g',m',c',l',e3,?_,ok3.mono (by omega)⟩
 refine(Ret.bnd (Q:=fun y=>y=Sum.inl ((v2,()),((g,rip,fl,nx,c2,()),(m,(l2,((dA x ()),())))))) ?_ ?_).eq
 ·by_cases hh:il x.cond fl=true
  ·obtain⟨rfl,rfl,rfl⟩:=t1 hh
   rw[hh,show aX true=false from rfl,aj]
   exact Ret.some rfl
  ·rw[Bool.eq_false_iff.2 hh,show aX false=true from rfl,aH,t2 (Bool.eq_false_iff.2 hh),aa]
   exact Ret.some rfl
 rintro _ rfl
 rw[ag]
 dsimp only[dA,cL,cp7]
 have hw:=r3 rip fl
 unfold cL at hw
 rw[hz,hw,aa]
 exact Ret.some rfl
theorem move_39 (hx:ExV x 39)(hz:x.size=z)(rip fl nx:Int):∃g' m' c' l',(MS.mk g m c l).move fl nx x 39 z=⟨g',m',c',l'⟩∧aA ((x,()),((g,rip,fl,nx,c,()),m,l,()))=some ((),((g',rip,fl,nx,c',()),m',l',()))∧(MS.mk g' m' c' l').ok (k+4):=by
 unfold MS.move aA
 dsimp only
 have hop:=hx.op
 have h3:z=2∨z=4∨z=8:=by have:=hx.szs.2.1 rfl;omega
 have hz':b8 (z:Int)=true:=by rcases h3 with rfl|rfl|rfl<;>rfl
 have hz2:b8 ((z/2:Nat):Int)=true:=by rcases h3 with rfl|rfl|rfl<;>rfl
 have hq:jJ .i64 (z:Int) 2=((z/2:Nat):Int):=by rw[gw (by omega) (by decide) (by omega)];omega
 obtain⟨h1,h8⟩:=dq hz2
 have hI:=gy (8*(z/2)-1) (by omega) (jQ g 0 (z/2))
 rw[if_neg (by decide),if_neg (by decide),if_neg (by decide),if_neg (by decide),if_neg (by decide),if_neg (by decide),if_neg (by decide),if_pos rfl,hop,hz,aq (by omega),aj,aq (by omega),aj,aq (by omega),aj,aq (by omega),aj,aq (by omega),aj,aq (by omega),aj,aq (by omega),aj,bc (by omega),aH,pW,aa]
 dsimp only
 rw[aj,hq,bG _ (z/2) hz2,aa]
 dsimp only
 rw[lL _ _ (by omega) (by omega),aa,aa,show(8*((z/2:Nat):Int)-1).toNat=8*(z/2)-1 by omega,r6 (by decide)]
 dsimp only
 rw[aj]
 refine⟨_,m,c,l,rfl,?_,⟨hs.m,Nat.le_trans hs.l (by omega),kX (g:=g) (r:=0) hs.g hI hz'⟩⟩
 exact CA hz' (by decide) (fun g'=>some ((),((g',(rip,(fl,(nx,(c,()))))),(m,(l,())))))
theorem move_40 (hx:ExV x 40)(hz:x.size=z)(rip fl nx:Int):∃g' m' c' l',(MS.mk g m c l).move fl nx x 40 z=⟨g',m',c',l'⟩∧aA ((x,()),((g,rip,fl,nx,c,()),m,l,()))=some ((),((g',rip,fl,nx,c',()),m',l',()))∧(MS.mk g' m' c' l').ok (k+4):=by
 unfold MS.move aA
 dsimp only
 have hop:=hx.op
 have hz':b8 (z:Int)=true:=by rw[←hz];exact hx.szs.1 (by decide)
 have hdv:=hx.dv
 rw[hz]at hdv
 obtain⟨h1,h8⟩:=dq hz'
 have hI:=gy (8*z-1) (by omega) (jQ g 0 z)
 have hI2:I64 (cf .i64 (sx (8*z-1) (jQ g 0 z)) 63):=by rw[CE hI];split<;>(unfold I64;omega)
 rw[if_neg (by decide),if_neg (by decide),if_neg (by decide),if_neg (by decide),if_neg (by decide),if_neg (by decide),if_neg (by decide),if_neg (by decide),if_pos rfl,hop,hz,aq (by omega),aj,aq (by omega),aj,aq (by omega),aj,aq (by omega),aj,aq (by omega),aj,aq (by omega),aj,aq (by omega),aj,aq (by omega),aj,bc (by omega),aH,pW,aa]
 dsimp only
 rw[aj,bG _ z hz',aa]
 dsimp only
 rw[lL _ _ (by omega) (by omega),aa,isHigh2,aa,show(8*(z:Int)-1).toNat=8*z-1 by omega,r6 (by decide)]
 dsimp only
 rw[aj]
 refine⟨_,m,c,l,rfl,?_,⟨hs.m,Nat.le_trans hs.l (by omega),kX (g:=g) (r:=2) hs.g hI2 hz'⟩⟩
 exact CA hz' (by decide) (fun g'=>some ((),((g',(rip,(fl,(nx,(c,()))))),(m,(l,())))))
end
end
noncomputable section
theorem zero1 (v:Int):ae ((v,(1,())),())=some (bO v 1,()):=bG v 1 rfl
theorem set_c0 {g:List Int}{v:Int}{n:Nat}(hn:b8 (n:Int)=true){α:Type}(Z:List Int→Option α):
  (br (leI 4 (n:Int)) (bnd (ae ((v,((n:Int),())),())) (fun x32=>Z (cr (dP 16 (aB .i) g) 0 x32.1))) (bnd (ae ((v,((n:Int),())),())) (fun x33=>(bnd (some (jQ g 0 n,())) (fun x34=>Z (cr (dP 16 (aB .i) g) 0 (aG .i64 (aQ g 0 (aB .i)) (aV .i64 x33.1 x34.1))))))))=Z (qM g 0 n v):=by
 have:=CA (g:=g) (r:=0) (v:=v) hn (by decide) Z
 rw[bG (aQ g 0 (aB .i)) n hn,r6 (by decide)]at this
 exact this
def setF {α:Type}(g:List Int)(r:Int)(n:Nat)(v:Int)(Z:List Int→Option α):Option α:=
 (bnd (aF ((r,()),())) (fun x8=>(br x8.1 (br (inR (aV .i64 r 16) 16) (bnd (ae ((v,(1,())),())) (fun x9=>Z (cr (dP 16 (aB .i) g) (aV .i64 r 16) (ior .i64 (fM .i64 (aQ g (aV .i64 r 16) (aB .i)) 65280) (dg .i64 x9.1 8))))) none) (br (leI 4 (n:Int)) (bnd (ae ((v,((n:Int),())),())) (fun x10=>(br (inR r 16) (Z (cr (dP 16 (aB .i) g) r x10.1)) none))) (br (inR r 16) (br (inR r 16) (bnd (ae ((v,((n:Int),())),())) (fun x11=>(bnd (ae (((aQ g r (aB .i)),((n:Int),())),())) (fun x12=>(br (inR r 16) (Z (cr (dP 16 (aB .i) g) r (aG .i64 (aQ g r (aB .i)) (aV .i64 x11.1 x12.1)))) none))))) none) none)))))
theorem xi {g:List Int}{r v:Int}{n:Nat}(hn:b8 (n:Int)=true)(hr:qF r n){α:Type}(Z:List Int→Option α):setF g r n v Z=Z (qM g r n v):=set_m hn hr Z
def upZ (z:Nat):Int:=if z=1 then 16 else 2
def MS.wide (s:MS)(fl nx:Int)(x:Ins)(n z:Nat):MS×Int:=
 let b:=s.rd nx x.src z
 if n=13∨n=14 then
  let r:=qm n z (jQ s.g 0 z) b.1 fl
  ({b.2 with g:=qM (qM s.g 0 z r.1) (upZ z) z r.2.1},r.2.2)
 else
  let r:=su n z (jQ s.g (upZ z) z) (jQ s.g 0 z) b.1
  ({b.2 with g:=qM (qM s.g 0 z r.1) (upZ z) z r.2.1,code:=if r.2.2=false∧b.2.code=0 then 16 else b.2.code},fl)
theorem FH (z:Nat):iE (((z:Int),()),())=some (upZ z,()):=by
 unfold iE upZ
 dsimp only
 by_cases h:z=1
 ·rw[bc (by omega),aH,if_pos h]
 ·rw[aq (by omega),aj,if_neg h]
theorem oA (z:Nat):qF (upZ z) z:=by
 unfold upZ qF
 split<;>omega
theorem wide_m {g:List Int}{m:List Page}{c:Int}{l:List Acc}{k:Nat}(hs:(MS.mk g m c l).ok k)(hk:k+4≤1000){x:Ins}{n z:Nat}(hx:ExV x n)(hn:13≤n∧n≤16)(hz:x.size=z)
  {fl:Int} (hI:I64 fl) (hf:bN fl=true) (rip nx:Int):
  ∃g' m' c' l' fl',(MS.mk g m c l).wide fl nx x n z=(⟨g',m',c',l'⟩,fl')∧cM ((x,()),((g,rip,fl,nx,c,()),m,l,()))=some ((),((g',rip,fl',nx,c',()),m',l',()))∧(MS.mk g' m' c' l').ok (k+4)∧I64 fl'∧bN fl'=true:=by
 have hz':b8 (z:Int)=true:=by rw[←hz];exact hx.szs.1 (by omega)
 have hsv:=hx.sv
 rw[show sSz x n=x.size from by unfold sSz;rw[if_neg (by omega),hx.fr.2 (by omega),if_neg (by decide)],hz]at hsv
 obtain⟨v1,c1,l1,e1,r1,ok1,I1⟩:=qD hs (by omega) hz' hsv nx
 have hgI:∀r,I64 (jQ g r z):=fun r=>sL (g:=g) hs.g hz'
 unfold MS.wide cM
 dsimp only
 have hop:=hx.op
 rw[e1,hop,hz,r1,aa,FH,aa]
 dsimp only
 have hb:br (eqI (n:Int) 13) (some true) (some (eqI (n:Int) 14))=some (decide (n=13∨n=14)):=by
  by_cases a:n=13
  ·rw[bc (by omega),aH,decide_eq_true (by omega)]
  ·rw[aq (by omega),aj]
   by_cases b:n=14
   ·rw[bc (by omega),decide_eq_true (by omega)]
   ·rw[aq (by omega),decide_eq_false (by omega)]
 rw[hb,aa]
 by_cases hm:n=13∨n=14
 ·rw[decide_eq_true hm,aH,pW,aa,if_pos hm]
  dsimp only
  rw[aj,bG _ z hz',aa,r6 (by decide)]
  dsimp only
  rw[qn hz' (hgI 0) I1 hI hf,aa,aa]
  dsimp only
  rw[aj]
  obtain⟨o1,o2,o3,o4⟩:=s9 (op:=n) (n:=z) (a:=jQ g 0 z) (b:=v1) hI hf
  obtain⟨p,hp⟩:∃p,p=qm n z (jQ g 0 z) v1 fl:=⟨_,rfl⟩
  rw[←hp]at o1 o2 o3 o4⊢
  obtain⟨lo,hi,f'⟩:=p
  clear hp
  dsimp only at o1 o2 o3 o4⊢
  refine⟨_,m,c1,l1,f',rfl,?_,⟨ok1.m,Nat.le_trans ok1.l (by omega),kX (g:=qM g 0 z lo) (kX (g:=g) hs.g o1 hz') o2 hz'⟩,o4,o3⟩
  exact(set_c0 (g:=g) (v:=lo) hz' (fun g'=>setF g' (upZ z) z hi (fun g''=>some ((),((g'',(rip,(f',(nx,(c1,()))))),(m,(l1,()))))))).trans (xi hz' (oA z) _)
 ·rw[decide_eq_false hm,aj,if_neg hm]
  obtain⟨o1,o2⟩:=xV (op:=n) (n:=z) (hi:=jQ g (upZ z) z) (lo:=jQ g 0 z) (d:=v1)
  have hd:=AK (op:=n) (n:=z) (hi:=jQ g (upZ z) z) (lo:=jQ g 0 z) (d:=v1) hz' (hgI _) (hgI _) I1
  obtain⟨p,hp⟩:∃p,p=su n z (jQ g (upZ z) z) (jQ g 0 z) v1:=⟨_,rfl⟩
  rw[←hp]at o1 o2 hd⊢
  obtain⟨q,r,ok⟩:=p
  clear hp
  dsimp only at o1 o2 hd⊢
  obtain⟨c2,hc2⟩:∃c2,c2=if ok=false∧c1=0 then 16 else c1:=⟨_,rfl⟩
  rw[←hc2]
  refine⟨_,m,c2,l1,fl,rfl,?_,⟨ok1.m,Nat.le_trans ok1.l (by omega),kX (g:=qM g 0 z q) (kX (g:=g) hs.g o1 hz') o2 hz'⟩,hI,hf⟩
  have hbr:br (aX ok) (some (eqI c1 0)) (some false)=some (decide (ok=false∧c1=0)):=by
   cases ok with
   |true=>rfl
   |false=>rw[show aX false=true from rfl,aH];unfold eqI;simp only[true_and]
  rw[lv,aa]
  dsimp only
  have hget:jQ g (upZ z) z=if z=1 then bO (cf .i64 (aQ g 0 (aB .i)) 8) 1 else bO (aQ g 2 (aB .i)) z:=by
   unfold jQ upZ
   by_cases h:z=1
   ·rw[if_pos h,if_pos h,if_pos (by decide)];rfl
   ·rw[if_neg h,if_neg h,if_neg (by decide)]
  by_cases h1:z=1
  ·rw[if_pos h1]at hget
   have hu:upZ z=16:=if_pos h1
   have hhi:decide (16≤upZ z∧upZ z≤19)=true:=by rw[hu];decide
   rw[hhi,aH,af (show inR (aV .i64 (upZ z) 16) 16=true by rw[hu];rfl),show aV .i64 (upZ z) 16=0 by rw[hu];rfl,zero1 (cf .i64 (aQ g 0 (aB .i)) 8),aa,←hget]
   dsimp only
   rw[pW,aa]
   dsimp only
   rw[aj,bG _ z hz',aa,r6 (r:=0) (by decide)]
   dsimp only
   rw[hd,aa]
   dsimp only
   rw[hbr,aa]
   refine(Ret.bnd (Q:=fun y=>y=Sum.inl ((upZ z,(q,(r,()))),((g,(rip,(fl,(nx,(c2,()))))),(m,(l1,((dA x ()),())))))) ?_ ?_).eq
   ·by_cases hcc:ok=false∧c1=0
    ·rw[decide_eq_true hcc,aH,hc2,if_pos hcc]
     exact Ret.some rfl
    ·rw[decide_eq_false hcc,aj,hc2,if_neg hcc]
     exact Ret.some rfl
   rintro _ rfl
   rw[ag]
   dsimp only[dA,cL]
   rw[aa,hz]
   dsimp only
   rw[aj]
   refine Ret.of_eq ((CA (g:=g) (r:=0) (v:=q) hz' (by decide) (fun g'=>setF g' (upZ z) z r (fun g''=>some ((),((g'',(rip,(fl,(nx,(c2,()))))),(m,(l1,()))))))).trans (xi hz' (oA z) _)) rfl
  ·rw[if_neg h1]at hget
   have hu:upZ z=2:=if_neg h1
   have hhi:decide (16≤upZ z∧upZ z≤19)=false:=by rw[hu];decide
   rw[hhi,aj,af (show inR (upZ z) 16=true by rw[hu];rfl),bG (aQ g (upZ z) (aB .i)) z hz',aa,show bO (aQ g (upZ z) (aB .i)) z=jQ g (upZ z) z by rw[hget,hu]]
   dsimp only
   rw[pW,aa]
   dsimp only
   rw[aj,bG _ z hz',aa,r6 (r:=0) (by decide)]
   dsimp only
   rw[hd,aa]
   dsimp only
   rw[hbr,aa]
   refine(Ret.bnd (Q:=fun y=>y=Sum.inl ((upZ z,(q,(r,()))),((g,(rip,(fl,(nx,(c2,()))))),(m,(l1,((dA x ()),())))))) ?_ ?_).eq
   ·by_cases hcc:ok=false∧c1=0
    ·rw[decide_eq_true hcc,aH,hc2,if_pos hcc]
     exact Ret.some rfl
    ·rw[decide_eq_false hcc,aj,hc2,if_neg hcc]
     exact Ret.some rfl
   rintro _ rfl
   rw[ag]
   dsimp only[dA,cL]
   rw[aa,hz]
   dsimp only
   rw[aj]
   refine Ret.of_eq ((CA (g:=g) (r:=0) (v:=q) hz' (by decide) (fun g'=>setF g' (upZ z) z r (fun g''=>some ((),((g'',(rip,(fl,(nx,(c2,()))))),(m,(l1,()))))))).trans (xi hz' (oA z) _)) rfl
end
noncomputable section
def mvB (n:Nat):Bool:=decide (n=9∨n=28∨n=25∨n=26∨n=27∨n=35∨n=36∨n=39∨n=40)
def wdB (n:Nat):Bool:=decide (n=13∨n=14∨n=15∨n=16)
def fwB (n:Nat):Bool:=decide (n=29∨n=30∨n=31∨n=34∨n=32∨n=33∨n=41∨n=42∨n=38∨n=43∨n=44∨n=37)
def exM (g:List Int)(rip fl:Int)(m:List Page)(x:Ins)(n z:Nat):MS×Int×Int:=
 let nx:=aG .i64 rip x.len
 let s:MS:=⟨g,m,0,[]⟩
 if mvB n=true then(s.move fl nx x n z,nx,fl)
 else if wdB n=true then((s.wide fl nx x n z).1,nx,(s.wide fl nx x n z).2)
 else if fwB n=true then((s.flow nx fl nx x n).1,(s.flow nx fl nx x n).2,fl)
 else((s.reck nx fl x n z).1,nx,(s.reck nx fl x n z).2)
def exR (g:List Int)(rip fl:Int)(m:List Page)(r:MS×Int×Int):((List Int×Int×Int×Unit)×Unit×Int×Unit)×List Page×List Acc×Unit:=
 if r.1.code≠0 then(((g,rip,fl,()),(),r.1.code,()),m,r.1.l,())else(((r.1.g,r.2.1,r.2.2,()),(),0,()),r.1.m,r.1.l,())
abbrev exT (g:List Int)(rip fl:Int)(m:List Page)(x:Ins):(List Int×Int×Int×Unit)×(List Page×Unit)×(Int×Int×Int×Int×Int×Int×Int×Int×Int×Int×Int×Int×Int×Int×Int×Int×Int×Int×Int×Unit)×(List Int×Int×Int×Unit)×Unit×TM:=
 (((g,(rip,(fl,()))):List Int×Int×Int×Unit),((m,()),((dA x ()),((([]:List Int),(0,(0,()))),((),((g,(aG .i64 rip x.len,(fl,(aG .i64 rip x.len,(0,()))))),(m,(([]:List Acc),()))))))))
theorem exec_m {g:List Int}{rip fl:Int}{m:List Page}{x:Ins}{n z:Nat}(hm:MemT m)(hg:iW g)(hI:I64 fl)(hf:bN fl=true)(hx:ExV x n)(hz:x.size=z):
  jn (((g,(rip,(fl,()))),((m,()),(x,()))),())=some (exR g rip fl m (exM g rip fl m x n z))∧(exM g rip fl m x n z).1.ok 4∧bN (exM g rip fl m x n z).2.2=true∧I64 (exM g rip fl m x n z).2.2:=by
 have hs:(MS.mk g m 0 []).ok 0:=⟨hm,Nat.le_refl 0,hg⟩
 have hop:=hx.op
 have h1:=hx.n1
 have h2:=hx.n2
 have Bk:(wC (dA x ()))=x:=rfl
 have key:∃g' m' c' l' rip' fl',exM g rip fl m x n z=(⟨g',m',c',l'⟩,rip',fl')∧(MS.mk g' m' c' l').ok 4∧bN fl'=true∧I64 fl'∧
   (mvB n=true→rip'=aG .i64 rip x.len∧fl'=fl∧aA ((x,()),((g,(aG .i64 rip x.len,(fl,(aG .i64 rip x.len,(0,()))))),(m,(([]:List Acc),()))))=some ((),((g',(aG .i64 rip x.len,(fl,(aG .i64 rip x.len,(c',()))))),(m',(l',())))))∧
   (mvB n=false→wdB n=true→rip'=aG .i64 rip x.len∧cM ((x,()),((g,(aG .i64 rip x.len,(fl,(aG .i64 rip x.len,(0,()))))),(m,(([]:List Acc),()))))=some ((),((g',(aG .i64 rip x.len,(fl',(aG .i64 rip x.len,(c',()))))),(m',(l',())))))∧
   (mvB n=false→wdB n=false→fwB n=true→fl'=fl∧an ((x,()),((g,(aG .i64 rip x.len,(fl,(aG .i64 rip x.len,(0,()))))),(m,(([]:List Acc),()))))=some ((),((g',(rip',(fl,(aG .i64 rip x.len,(c',()))))),(m',(l',())))))∧
   (mvB n=false→wdB n=false→fwB n=false→rip'=aG .i64 rip x.len∧cm ((x,()),((g,(aG .i64 rip x.len,(fl,(aG .i64 rip x.len,(0,()))))),(m,(([]:List Acc),()))))=some ((),((g',(aG .i64 rip x.len,(fl',(aG .i64 rip x.len,(c',()))))),(m',(l',()))))):=by
  unfold exM
  dsimp only
  cases hmv:mvB n with
  |true=>
   rw[if_pos rfl]
   have hn:=of_decide_eq_true hmv
   have hmove:∃g' m' c' l',(MS.mk g m 0 []).move fl (aG .i64 rip x.len) x n z=⟨g',m',c',l'⟩∧aA ((x,()),((g,aG .i64 rip x.len,fl,aG .i64 rip x.len,0,()),m,[],()))=some ((),((g',aG .i64 rip x.len,fl,aG .i64 rip x.len,c',()),m',l',()))∧(MS.mk g' m' c' l').ok (0+4):=by
    rcases hn with rfl|rfl|rfl|rfl|rfl|rfl|rfl|rfl|rfl
    ·exact move_9 hs (by decide) hx hz _ fl _
    ·exact move_28 hs (by decide) hx hz _ fl _
    ·exact move_25 hs (by decide) hx hz _ fl _
    ·exact move_26 hs (by decide) hx hz _ fl _
    ·exact move_27 hs (by decide) hx hz _ fl _
    ·exact move_35 hs (by decide) hx hz _ fl _
    ·exact move_36 hs (by decide) hx hz _ fl _
    ·exact move_39 hs (by decide) hx hz _ fl _
    ·exact move_40 hs (by decide) hx hz _ fl _
   obtain⟨g',m',c',l',e,r,ok⟩:=hmove
   exact⟨g',m',c',l',_,fl,by rw[e],ok,hf,hI,fun _=>⟨rfl,rfl,r⟩,(fun h=>by cases h),(fun h=>by cases h),(fun h=>by cases h)⟩
  |false=>
   rw[if_neg (by decide)]
   cases hwd:wdB n with
   |true=>
    rw[if_pos rfl]
    have hn:=of_decide_eq_true hwd
    obtain⟨g',m',c',l',fl',e,r,ok,fI,ff⟩:=wide_m hs (by decide) hx (by omega) hz hI hf (aG .i64 rip x.len) (aG .i64 rip x.len)
    exact⟨g',m',c',l',_,fl',by rw[e],ok,ff,fI,(fun h=>by cases h),fun _ _=>⟨rfl,r⟩,(fun _ h=>by cases h),(fun _ h=>by cases h)⟩
   |false=>
    rw[if_neg (by decide)]
    cases hfw:fwB n with
    |true=>
     rw[if_pos rfl]
     have hn:=of_decide_eq_true hfw
     have hflow:∃g' m' c' l' rip',(MS.mk g m 0 []).flow (aG .i64 rip x.len) fl (aG .i64 rip x.len) x n=(⟨g',m',c',l'⟩,rip')∧an ((x,()),((g,aG .i64 rip x.len,fl,aG .i64 rip x.len,0,()),m,[],()))=some ((),((g',rip',fl,aG .i64 rip x.len,c',()),m',l',()))∧(MS.mk g' m' c' l').ok (0+3):=by
      rcases hn with rfl|rfl|rfl|rfl|rfl|rfl|rfl|rfl|rfl|rfl|rfl|rfl
      ·exact flow_29 hs (by decide) hx _ fl _
      ·exact flow_30 hs (by decide) hx _ fl _
      ·exact flow_31 hs (by decide) hx _ fl _
      ·exact flow_34 hs (by decide) hx _ fl _
      ·exact flow_32 hs (by decide) hx _ fl _
      ·exact flow_33 hs (by decide) hx _ fl _
      ·exact flow_41 hs (by decide) hx _ fl _
      ·exact flow_42 hs (by decide) hx _ fl _
      ·exact flow_38 hs (by decide) hx _ fl _
      ·exact flow_43 hs (by decide) hx _ fl _
      ·exact flow_44 hs (by decide) hx _ fl _
      ·exact flow_37 hs (by decide) hx _ fl _
     obtain⟨g',m',c',l',rip',e,r,ok⟩:=hflow
     exact⟨g',m',c',l',rip',fl,by rw[e],ok.mono (by decide),hf,hI,(fun h=>by cases h),(fun _ h=>by cases h),fun _ _ _=>⟨rfl,r⟩,(fun _ _ h=>by cases h)⟩
    |false=>
     rw[if_neg (by decide)]
     have n1:=of_decide_eq_false hmv
     have n2:=of_decide_eq_false hwd
     have n3:=of_decide_eq_false hfw
     obtain⟨g',m',c',l',fl',e,r,ok,fI,ff⟩:=reck_m hs (by decide) hx (by omega) hz hI hf (aG .i64 rip x.len)
     exact⟨g',m',c',l',_,fl',by rw[e],ok.mono (by decide),ff,fI,(fun h=>by cases h),(fun _ h=>by cases h),(fun _ _ h=>by cases h),fun _ _ _=>⟨rfl,r _⟩⟩
 obtain⟨g',m',c',l',rip',fl',e,ok,ff,fI,k1,k2,k3,k4⟩:=key
 rw[e]
 refine⟨?_,ok,ff,fI⟩
 unfold jn
 dsimp only
 rw[nV m (by have:=hm.len;omega),aa,hop]
 dsimp only
 refine(Ret.bnd (Q:=fun y=>y=Sum.inl (((n:Int),(mvB n,())),exT g rip fl m x)) ?_ ?_).eq
 ·by_cases h9:n=9
  ·rw[bc (by omega),aH,show mvB n=true from decide_eq_true (by omega)]
   exact Ret.some rfl
  rw[aq (by omega),aj]
  refine Ret.bnd (Q:=fun y=>y=Sum.inl (((n:Int),(mvB n,())),exT g rip fl m x)) ?_ (by rintro _ rfl;rw[ag];exact Ret.some rfl)
  by_cases h28:n=28
  ·rw[bc (by omega),aH,show mvB n=true from decide_eq_true (by omega)]
   exact Ret.some rfl
  rw[aq (by omega),aj]
  refine Ret.bnd (Q:=fun y=>y=Sum.inl (((n:Int),(mvB n,())),exT g rip fl m x)) ?_ (by rintro _ rfl;rw[ag];exact Ret.some rfl)
  by_cases h25:n=25
  ·rw[bc (by omega),aH,show mvB n=true from decide_eq_true (by omega)]
   exact Ret.some rfl
  rw[aq (by omega),aj]
  refine Ret.bnd (Q:=fun y=>y=Sum.inl (((n:Int),(mvB n,())),exT g rip fl m x)) ?_ (by rintro _ rfl;rw[ag];exact Ret.some rfl)
  by_cases h26:n=26
  ·rw[bc (by omega),aH,show mvB n=true from decide_eq_true (by omega)]
   exact Ret.some rfl
  rw[aq (by omega),aj]
  refine Ret.bnd (Q:=fun y=>y=Sum.inl (((n:Int),(mvB n,())),exT g rip fl m x)) ?_ (by rintro _ rfl;rw[ag];exact Ret.some rfl)
  by_cases h27:n=27
  ·rw[bc (by omega),aH,show mvB n=true from decide_eq_true (by omega)]
   exact Ret.some rfl
  rw[aq (by omega),aj]
  refine Ret.bnd (Q:=fun y=>y=Sum.inl (((n:Int),(mvB n,())),exT g rip fl m x)) ?_ (by rintro _ rfl;rw[ag];exact Ret.some rfl)
  by_cases h35:n=35
  ·rw[bc (by omega),aH,show mvB n=true from decide_eq_true (by omega)]
   exact Ret.some rfl
  rw[aq (by omega),aj]
  refine Ret.bnd (Q:=fun y=>y=Sum.inl (((n:Int),(mvB n,())),exT g rip fl m x)) ?_ (by rintro _ rfl;rw[ag];exact Ret.some rfl)
  by_cases h36:n=36
  ·rw[bc (by omega),aH,show mvB n=true from decide_eq_true (by omega)]
   exact Ret.some rfl
  rw[aq (by omega),aj]
  refine Ret.bnd (Q:=fun y=>y=Sum.inl (((n:Int),(mvB n,())),exT g rip fl m x)) ?_ (by rintro _ rfl;rw[ag];exact Ret.some rfl)
  by_cases h39:n=39
  ·rw[bc (by omega),aH,show mvB n=true from decide_eq_true (by omega)]
   exact Ret.some rfl
  rw[aq (by omega),aj]
  rw[show eqI (n:Int) 40=mvB n from by unfold eqI;unfold mvB;rw[Bool.eq_iff_iff,decide_eq_true_eq,decide_eq_true_eq];omega]
  exact Ret.some rfl
 rintro _ rfl
 rw[ag]
 dsimp only[d6,p6,exT]
 rw[Bk]
 refine Ret.bnd (Q:=fun y=>y=Sum.inl ((),(((g,(rip,(fl,()))):List Int×Int×Int×Unit),((m,()),((([]:List Int),(0,(0,()))),((),((g',(rip',(fl',(aG .i64 rip x.len,(c',()))))),(m',(l',()))))))))) ?_ ?_
 ·cases hmv:mvB n with
  |true=>
   obtain⟨rfl,rfl,r⟩:=k1 hmv
   rw[aH,r,aa]
   exact Ret.some rfl
  |false=>
   rw[aj]
   refine Ret.bnd (Q:=fun y=>y=Sum.inl (((n:Int),(wdB n,())),exT g rip fl m x)) ?_ ?_
   ·by_cases h13:n=13
    ·rw[bc (by omega),aH,show wdB n=true from decide_eq_true (by omega)]
     exact Ret.some rfl
    rw[aq (by omega),aj]
    refine Ret.bnd (Q:=fun y=>y=Sum.inl (((n:Int),(wdB n,())),exT g rip fl m x)) ?_ (by rintro _ rfl;rw[ag];exact Ret.some rfl)
    by_cases h14:n=14
    ·rw[bc (by omega),aH,show wdB n=true from decide_eq_true (by omega)]
     exact Ret.some rfl
    rw[aq (by omega),aj]
    refine Ret.bnd (Q:=fun y=>y=Sum.inl (((n:Int),(wdB n,())),exT g rip fl m x)) ?_ (by rintro _ rfl;rw[ag];exact Ret.some rfl)
    by_cases h15:n=15
    ·rw[bc (by omega),aH,show wdB n=true from decide_eq_true (by omega)]
     exact Ret.some rfl
    rw[aq (by omega),aj]
    rw[show eqI (n:Int) 16=wdB n from by unfold eqI;unfold wdB;rw[Bool.eq_iff_iff,decide_eq_true_eq,decide_eq_true_eq];omega]
    exact Ret.some rfl
   rintro _ rfl
   rw[ag]
   dsimp only[d6,p6,exT]
   rw[Bk]
   refine Ret.bnd (Q:=fun y=>y=Sum.inl ((),(((g,(rip,(fl,()))):List Int×Int×Int×Unit),((m,()),((([]:List Int),(0,(0,()))),((),((g',(rip',(fl',(aG .i64 rip x.len,(c',()))))),(m',(l',()))))))))) ?_ (by rintro _ rfl;rw[ag];exact Ret.some rfl)
   cases hwd:wdB n with
   |true=>
    obtain⟨rfl,r⟩:=k2 hmv hwd
    rw[aH,r,aa]
    exact Ret.some rfl
   |false=>
    rw[aj]
    refine Ret.bnd (Q:=fun y=>y=Sum.inl ((fwB n,()),exT g rip fl m x)) ?_ ?_
    ·by_cases h29:n=29
     ·rw[bc (by omega),aH,show fwB n=true from decide_eq_true (by omega)]
      exact Ret.some rfl
     rw[aq (by omega),aj]
     refine Ret.bnd (Q:=fun y=>y=Sum.inl ((fwB n,()),exT g rip fl m x)) ?_ (by rintro _ rfl;rw[ag];exact Ret.some rfl)
     by_cases h30:n=30
     ·rw[bc (by omega),aH,show fwB n=true from decide_eq_true (by omega)]
      exact Ret.some rfl
     rw[aq (by omega),aj]
     refine Ret.bnd (Q:=fun y=>y=Sum.inl ((fwB n,()),exT g rip fl m x)) ?_ (by rintro _ rfl;rw[ag];exact Ret.some rfl)
     by_cases h31:n=31
     ·rw[bc (by omega),aH,show fwB n=true from decide_eq_true (by omega)]
      exact Ret.some rfl
     rw[aq (by omega),aj]
     refine Ret.bnd (Q:=fun y=>y=Sum.inl ((fwB n,()),exT g rip fl m x)) ?_ (by rintro _ rfl;rw[ag];exact Ret.some rfl)
     by_cases h34:n=34
     ·rw[bc (by omega),aH,show fwB n=true from decide_eq_true (by omega)]
      exact Ret.some rfl
     rw[aq (by omega),aj]
     refine Ret.bnd (Q:=fun y=>y=Sum.inl ((fwB n,()),exT g rip fl m x)) ?_ (by rintro _ rfl;rw[ag];exact Ret.some rfl)
     by_cases h32:n=32
     ·rw[bc (by omega),aH,show fwB n=true from decide_eq_true (by omega)]
      exact Ret.some rfl
     rw[aq (by omega),aj]
     refine Ret.bnd (Q:=fun y=>y=Sum.inl ((fwB n,()),exT g rip fl m x)) ?_ (by rintro _ rfl;rw[ag];exact Ret.some rfl)
     by_cases h33:n=33
     ·rw[bc (by omega),aH,show fwB n=true from decide_eq_true (by omega)]
      exact Ret.some rfl
     rw[aq (by omega),aj]
     refine Ret.bnd (Q:=fun y=>y=Sum.inl ((fwB n,()),exT g rip fl m x)) ?_ (by rintro _ rfl;rw[ag];exact Ret.some rfl)
     by_cases h41:n=41
     ·rw[bc (by omega),aH,show fwB n=true from decide_eq_true (by omega)]
      exact Ret.some rfl
     rw[aq (by omega),aj]
     refine Ret.bnd (Q:=fun y=>y=Sum.inl ((fwB n,()),exT g rip fl m x)) ?_ (by rintro _ rfl;rw[ag];exact Ret.some rfl)
     by_cases h42:n=42
     ·rw[bc (by omega),aH,show fwB n=true from decide_eq_true (by omega)]
      exact Ret.some rfl
     rw[aq (by omega),aj]
     refine Ret.bnd (Q:=fun y=>y=Sum.inl ((fwB n,()),exT g rip fl m x)) ?_ (by rintro _ rfl;rw[ag];exact Ret.some rfl)
     by_cases h38:n=38
     ·rw[bc (by omega),aH,show fwB n=true from decide_eq_true (by omega)]
      exact Ret.some rfl
     rw[aq (by omega),aj]
     refine Ret.bnd (Q:=fun y=>y=Sum.inl ((fwB n,()),exT g rip fl m x)) ?_ (by rintro _ rfl;rw[ag];exact Ret.some rfl)
     by_cases h43:n=43
     ·rw[bc (by omega),aH,show fwB n=true from decide_eq_true (by omega)]
      exact Ret.some rfl
     rw[aq (by omega),aj]
     refine Ret.bnd (Q:=fun y=>y=Sum.inl ((fwB n,()),exT g rip fl m x)) ?_ (by rintro _ rfl;rw[ag];exact Ret.some rfl)
     by_cases h44:n=44
     ·rw[bc (by omega),aH,show fwB n=true from decide_eq_true (by omega)]
      exact Ret.some rfl
     rw[aq (by omega),aj]
     rw[show eqI (n:Int) 37=fwB n from by unfold eqI;unfold fwB;rw[Bool.eq_iff_iff,decide_eq_true_eq,decide_eq_true_eq];omega]
     exact Ret.some rfl
    rintro _ rfl
    rw[ag]
    dsimp only[d6,p6,exT]
    rw[Bk]
    refine Ret.bnd (Q:=fun y=>y=Sum.inl ((),(((g,(rip,(fl,()))):List Int×Int×Int×Unit),((m,()),((([]:List Int),(0,(0,()))),((),((g',(rip',(fl',(aG .i64 rip x.len,(c',()))))),(m',(l',()))))))))) ?_ (by rintro _ rfl;rw[ag];exact Ret.some rfl)
    cases hfw:fwB n with
    |true=>
     obtain⟨rfl,r⟩:=k3 hmv hwd hfw
     rw[aH,r,aa]
     exact Ret.some rfl
    |false=>
     obtain⟨rfl,r⟩:=k4 hmv hwd hfw
     rw[aj,r,aa]
     exact Ret.some rfl
 rintro _ rfl
 rw[ag]
 dsimp only[d5,p5,d6,d7]
 unfold exR
 dsimp only
 by_cases hc:c'=0
 ·rw[hc,bc rfl,ce,aj,if_neg (by decide)]
  exact Ret.some rfl
 ·rw[aq hc,cP,aH,if_pos hc,nV m (by have:=hm.len;omega),aa]
  exact Ret.some rfl
end
noncomputable section
theorem mK {c f:Int}(h0:0≤c)(h1:c≤15):cX ((c,(f,())),())=some (il c f,()):=by
 unfold cX
 dsimp only
 have hs:∀b,aX (eqI (ct .i64 f b) 0)=kQ f b:=fun b=>by
  unfold kQ
  cases eqI (ct .i64 f b) 0<;>rfl
 simp only[hs]
 have o1:br (kQ f 1) (some true) (some (kQ f 64))=some (kQ f 1||kQ f 64):=by cases kQ f 1<;>rfl
 have o2:br (kQ f 64) (some true) (some (aX (eqB (kQ f 128) (kQ f 2048))))=some (kQ f 64||(kQ f 128 != kQ f 2048)):=by rw[neB];cases kQ f 64<;>rfl
 rw[o1,aa,o2,aa,gw h0 (by decide) (by omega),af (cH (by omega) (by omega)),dL h0,neB]
 congr 2
theorem ej (a b:Int):aY ((a,(b,())),())=some (aG .i64 a b,()):=by
 unfold aY
 dsimp only
 congr 2
 unfold ah
 rw[Ap]
 unfold aG
 refine kF ?_
 rw[eD,eD]
 omega
theorem qe {g:List Int}{rip fl r:Int}{n:Nat}(hg:iW g)(hn:b8 (n:Int)=true)(hr:qF r n):dH (((g,(rip,(fl,()))),(r,((n:Int),()))),())=some (jQ g r n,()):=by
 unfold qF at hr
 unfold dH jQ
 dsimp only
 by_cases h16:16≤r
 ·rw[eY h16,aH,if_pos h16,ck (by omega) (by omega),af (cH (by omega) (by omega))]
  have h1:=bn (v:=ah .i64 (cf .u64 (ah .u64 (aQ g (r-16) (aB .i))) 8)) (gm _) 1 rfl
  have h1':ak (((ah .i64 (cf .u64 (ah .u64 (aQ g (r-16) (aB .i))) 8)),(1,())),())=_:=h1
  rw[h1',aa]
  have hI:=hg (r-16)
  obtain⟨v,hv⟩:∃v,v=aQ g (r-16) (aB .i):=⟨_,rfl⟩
  rw[←hv]
  have hI:I64 v:=by rw[hv];exact hI
  unfold I64 at hI
  have e:bO (ah .i64 (cf .u64 (ah .u64 v) 8)) 1=bO (cf .i64 v 8) 1:=by
   unfold bO
   rw[if_neg (by decide),if_neg (by decide)]
   have hs:cf .u64 (ah .u64 v) 8=ah .u64 v/256:=qP _ 8 (by decide)
   have hs2:cf .i64 v 8=v/256:=by
    unfold cf
    rw[show(2:Int)^min (Int.toNat 8) IntKind.i64.bits=256 from rfl,Int.fdiv_eq_ediv_of_nonneg _ (by decide)]
   rw[hs,hs2]
   have hw:ah .u64 v=v%18446744073709551616:=eD
   rw[hw,show(2:Int)^(8*1)=256 from rfl]
   have:=lU (v%18446744073709551616/256)
   unfold ah
   omega
  rw[e,hv]
 ·rw[jI h16,aj,if_neg h16,af (cH (by omega) (by omega)),bn (hg r) n hn,aa]
end
noncomputable section
theorem sn {a b:Int}(h:a%18446744073709551616=b%18446744073709551616):BitVec.ofInt 64 a=BitVec.ofInt 64 b:=by
 apply BitVec.eq_of_toNat_eq
 rw[BitVec.toNat_ofInt,BitVec.toNat_ofInt]
 show(a%18446744073709551616).toNat=(b%18446744073709551616).toNat
 rw[h]
theorem uz {a b c d:Int}(h1:a%18446744073709551616=c%18446744073709551616)(h2:b%18446744073709551616=d%18446744073709551616):ah .i64 (ior .u64 a b)=ior .i64 c d:=by
 unfold ior ah
 refine kF ?_
 rw[eD,Int.emod_emod]
 show((BitVec.ofInt 64 a|||BitVec.ofInt 64 b).toNat:Int)%_=((BitVec.ofInt 64 c|||BitVec.ofInt 64 d).toNat:Int)%_
 rw[sn h1,sn h2]
theorem pQ {a b m:Int}(h:a%18446744073709551616=b%18446744073709551616):fM .u64 a m%18446744073709551616=fM .i64 b m%18446744073709551616:=by
 unfold fM
 rw[eD,Int.emod_emod,lU]
 show((BitVec.ofInt 64 a&&& ~~~BitVec.ofInt 64 m).toNat:Int)%_=((BitVec.ofInt 64 b&&& ~~~BitVec.ofInt 64 m).toNat:Int)%_
 rw[sn h]
theorem Bl (a:Int)(k:Nat)(hk:k≤63):uns (fM .i64 a ((2^k-1:Nat):Int))=2^k*(uns a/2^k):=by
 unfold fM
 rw[bP]
 show uns (((BitVec.ofInt 64 a&&& ~~~BitVec.ofInt 64 ((2^k-1:Nat):Int)).toNat:Nat):Int)=_
 rw[eB (BitVec.isLt _)]
 have hm:(BitVec.ofInt 64 ((2^k-1:Nat):Int)).toNat=2^k-1:=by
  have hlt:2^k-1<2^64:=Nat.lt_of_lt_of_le (Nat.sub_lt (Nat.two_pow_pos k) (by decide)) (Nat.pow_le_pow_right (by decide) (by omega))
  rw[BitVec.toNat_ofInt]
  have:(((2^k-1:Nat):Int)%((2^64:Nat):Int))=(((2^k-1)%2^64:Nat):Int):=(Int.natCast_emod ..).symm
  rw[this,Int.toNat_natCast,Nat.mod_eq_of_lt hlt]
 refine Nat.eq_of_testBit_eq fun i=>?_
 rw[←BitVec.getLsbD,BitVec.getLsbD_and,BitVec.getLsbD_not]
 rw[BitVec.getLsbD,BitVec.getLsbD,hm,Nat.testBit_two_pow_sub_one,Nat.testBit_two_pow_mul]
 show((uns a).testBit i&&_)=_
 rw[Nat.testBit_div_two_pow]
 by_cases h:i<64
 ·by_cases hki:k≤i
  ·rw[decide_eq_true h,decide_eq_false (by omega),decide_eq_true hki,show i-k+k=i by omega];simp
  ·rw[decide_eq_true h,decide_eq_true (show i<k by omega),decide_eq_false hki];simp
 ·have:(uns a).testBit i=false:=Nat.testBit_lt_two_pow (Nat.lt_of_lt_of_le (dV a) (Nat.pow_le_pow_right (by decide) (by omega)))
  by_cases hki:k≤i
  ·rw[this,decide_eq_true hki,show i-k+k=i by omega,this];simp
  ·omega
theorem set_low {x v:Int}{n:Nat}(hn:n=1∨n=2)(hx:I64 x)(hv:I64 v)(m:Int)(hm:m=((2^(8*n)-1:Nat):Int)):
  ah .i64 (ior .u64 (fM .u64 (ah .u64 x) m) (dg .u64 (ah .u64 (bO v n)) 0))=aG .i64 x (aV .i64 (bO v n) (bO x n)):=by
 have hs:b8 (n:Int)=true:=by rcases hn with rfl|rfl<;>rfl
 have hw:∀z:Int,ah .u64 z=z%18446744073709551616:=fun z=>eD
 have e0:dg .u64 (ah .u64 (bO v n)) 0=ah .u64 (bO v n)%18446744073709551616:=by
  have:=yP (ah .u64 (bO v n)) 0 (by decide)
  rw[Int.pow_zero,Int.mul_one]at this
  exact this
 have h1:=pQ (a:=ah .u64 x) (b:=x) (m:=m) (by rw[hw];omega)
 have h2:dg .u64 (ah .u64 (bO v n)) 0%18446744073709551616=bO v n%18446744073709551616:=by rw[e0,hw];omega
 rw[uz h1 h2]
 refine iV (j6 ..) (ar _) ?_
 rw[lP,hm,Bl x _ (by omega),cg hv hs,←Nat.two_pow_add_eq_or_of_lt (fL v n)]
 unfold aG aV
 rw[bP]
 have hl:=cg hv hs
 have hl2:=cg hx hs
 have c1:=bi (bO v n)
 have c2:=bi (bO x n)
 have c3:=bi x
 rw[hl]at c1
 rw[hl2]at c2
 have hlx:bW x n=uns x%2^(8*n):=rfl
 have hdm:=Nat.div_add_mod (uns x) (2^(8*n))
 have hux:=dV x
 have hlv:=fL v n
 have hP:2^(8*n)≤65536:=by rcases hn with rfl|rfl<;>decide
 have hz:=bi (x+IntKind.wrap .i64 (bO v n-bO x n))
 have hwe:=lU (bO v n-bO x n)
 rw[show(2:Int)^64=18446744073709551616 from rfl]at*
 have key:((uns (x+IntKind.wrap .i64 (bO v n-bO x n)):Nat):Int)=((2^(8*n)*(uns x/2^(8*n))+bW v n:Nat):Int):=by
  rw[hz]
  have hbd:2^(8*n)*(uns x/2^(8*n))+bW v n<18446744073709551616:=by
   have hd64:2^(8*n)*(uns x/2^(8*n))+2^(8*n)≤2^64:=by
    have hq:uns x/2^(8*n)<2^(64-8*n):=Nat.div_lt_of_lt_mul (by rw[←Nat.pow_add,show 8*n+(64-8*n)=64 by omega];exact hux)
    have:2^(8*n)*(uns x/2^(8*n)+1)≤2^(8*n)*2^(64-8*n):=Nat.mul_le_mul_left _ hq
    rw[←Nat.pow_add,show 8*n+(64-8*n)=64 by omega,Nat.mul_add,Nat.mul_one]at this
    exact this
   exact Nat.lt_of_lt_of_le (Nat.add_lt_add_left hlv _) hd64
  rw[Int.natCast_add]
  obtain⟨A,hA⟩:∃A,A=2^(8*n)*(uns x/2^(8*n)):=⟨_,rfl⟩
  rw[←hA]at hdm hbd⊢
  rw[←hlx]at hdm
  generalize IntKind.wrap .i64 (bO v n-bO x n)=W at*
  omega
 omega
end
noncomputable section
theorem ishl8 (v:Int):dg .u64 (ah .u64 v) 8%18446744073709551616=dg .i64 v 8%18446744073709551616:=by
 have h1:dg .u64 (ah .u64 v) 8=ah .u64 v*256%18446744073709551616:=yP (ah .u64 v) 8 (by decide)
 have h2:ah .u64 v=v%18446744073709551616:=eD
 have h3:dg .i64 v 8=IntKind.wrap .i64 (v*256):=rfl
 rw[h1,h2,h3,lU]
 omega
theorem jy {g:List Int}{rip fl r v:Int}{n:Nat}(hg:iW g)(hv:I64 v)(hn:b8 (n:Int)=true)(hr:qF r n):
  cD (((g,(rip,(fl,()))),(r,((n:Int),(v,())))),())=some ((qM g r n v,(rip,(fl,()))),()):=by
 have h1:=bn hv n hn
 have h4:=sR hn
 unfold qF at hr
 unfold cD qM Go.Den.G.setA
 dsimp only
 rw[h1,aa]
 dsimp only
 by_cases h16:16≤r
 ·have hn1:n=1:=by omega
  subst hn1
  rw[eY h16,aH,aa,ag,if_pos h16,ck (by omega) (by omega)]
  dsimp only
  rw[show leI 4 ((1:Nat):Int)=false from rfl,aj,show bE .i64 8 ((1:Nat):Int)=8 from rfl,show ah .u64 8=8 from rfl,show leI 0 8=true from rfl,aH,aH,af (cH (by omega) (by omega)),aH,af (cH (by omega) (by omega))]
  rw[show dg .u64 (aV .u64 (dg .u64 1 8) 1) 8=65280 from by decide]
  have e:=uz (a:=fM .u64 (ah .u64 (aQ g (r-16) (aB .i))) 65280) (b:=dg .u64 (ah .u64 (bO v 1)) 8) (c:=fM .i64 (aQ g (r-16) (aB .i)) 65280) (d:=dg .i64 (bO v 1) 8)
   (pQ (by rw[show ah .u64 (aQ g (r-16) (aB .i))=_ from eD,Int.emod_emod])) (ishl8 _)
  rw[e]
 ·rw[jI h16,aj,aa,ag,if_neg h16]
  dsimp only
  by_cases h4':4≤n
  ·rw[af (eY (by omega)),af (cH (by omega) (by omega)),if_pos h4']
  ·rw[am (jI (by omega)),if_neg h4']
   have hI:=hg r
   have hn12:n=1∨n=2:=by omega
   have e:=set_low (x:=rg g r) (v:=v) (n:=n) hn12 hI hv ((2^(8*n)-1:Nat):Int) rfl
   rcases hn12 with rfl|rfl
   ·rw[show bE .i64 8 ((1:Nat):Int)=8 from rfl,show ah .u64 8=8 from rfl,show ah .u64 0=0 from rfl,show leI 0 8=true from rfl,show leI 0 0=true from rfl,aH,aH,af (cH (by omega) (by omega)),aH,af (cH (by omega) (by omega))]
    rw[show dg .u64 (aV .u64 (dg .u64 1 8) 1) 0=((2^(8*1)-1:Nat):Int)from by decide]
    rw[e]
   ·rw[show bE .i64 8 ((2:Nat):Int)=16 from rfl,show ah .u64 16=16 from rfl,show ah .u64 0=0 from rfl,show leI 0 16=true from rfl,show leI 0 0=true from rfl,aH,aH,af (cH (by omega) (by omega)),aH,af (cH (by omega) (by omega))]
    rw[show dg .u64 (aV .u64 (dg .u64 1 16) 1) 0=((2^(8*2)-1:Nat):Int)from by decide]
    rw[e]
theorem mul_u (a b:Int):ah .i64 (bE .u64 (ah .u64 a) (ah .u64 b))=bE .i64 a b:=by
 have h1:∀z:Int,ah .u64 z=z%18446744073709551616:=fun z=>eD
 unfold ah bE
 refine kF ?_
 rw[eD,eD,eD,Int.emod_emod,Int.mul_emod a b,←Int.mul_emod]
theorem kR {g:List Int}{rip fl nx:Int}{o:Opd}(hb:o.base≤16∧o.index≤15):
  bZ (((g,(rip,(fl,()))),(cL o (),(nx,()))),())=some (ml g nx o,()):=by
 unfold bZ ml cL
 dsimp only
 refine(Ret.bnd (Q:=fun y=>y=Sum.inl ((if o.base=16 then aG .i64 o.disp nx else if 0≤o.base then aG .i64 o.disp (rg g o.base)else o.disp,()),((g,(rip,(fl,()))),((o.kind,(o.reg,(o.base,(o.index,(o.scale,(o.disp,(o.imm,()))))))),())))) ?_ ?_).eq
 ·by_cases b16:o.base=16
  ·rw[bc b16,aH,if_pos b16,ej,aa]
   exact Ret.some rfl
  ·rw[aq b16,aj,if_neg b16]
   by_cases hb0:0≤o.base
   ·rw[af (eY hb0),af (cH hb0 (by omega)),if_pos hb0,ej,aa,aa,ag]
    exact Ret.some rfl
   ·rw[am (jI hb0),if_neg hb0,aa,ag]
    exact Ret.some rfl
 rintro _ rfl
 rw[ag]
 dsimp only
 by_cases hi:0≤o.index
 ·rw[af (eY hi),af (cH hi (by omega)),if_pos hi,mul_u,ej,aa]
  exact Ret.some rfl
 ·rw[am (jI hi),if_neg hi]
  exact Ret.some rfl
theorem wG (m:List Page)(hm:MemT m)(a v:Int)(n:Nat)(hn:b8 (n:Int)=true)(ha:I64 a):
  fq (((m,()),(a,((n:Int),(v,())))),())=some ((((jE m a n v).1,()),((jE m a n v).2,())),()):=by
 obtain⟨n1,n8⟩:=dq hn
 obtain⟨_,hs⟩:=tE m hm a v n hn ha
 generalize jE m a n v=s at hs⊢
 obtain⟨x,e⟩:=s
 dsimp only at hs⊢
 unfold fq
 dsimp only
 rw[jg m hm.r a 2 n n1 (by omega) ha,aa]
 dsimp only
 rcases hs with ⟨_,rfl,he,hf⟩|⟨rfl,hf,hx⟩
 ·rw[aq hf,cP,aH,he]
 ·have hok:=ll hm.r n 0 hf
  have hok:∀k,k<(leB v n).length→¬fnd m (a+(k:Nat))<0:=fun k hk=>hok k (Nat.zero_le _) (by rw[od]at hk;omega)
  obtain⟨y,hy1,hy2⟩:=put_ex m hm a (leB v n) ha (by rw[od];omega) hok
  rw[od]at hy2
  rw[hf,bc rfl,ce,aj,uC v n n8,aa,hy1,aa,hy2.unique hx]
abbrev TR:=(List Int×Int×Int×List Page×Int×Int×Unit)×List Acc×Unit
def MS.r (s:MS)(rip fl nx:Int):TR:=((s.g,rip,fl,s.m,nx,s.code,()),s.l,())
theorem BJ {s:MS}{k:Nat}(hs:s.ok k)(hk:k≤1000){a:Int}(ha:I64 a){n:Nat}(hn:b8 (n:Int)=true)(rip fl nx:Int):
  bp ((a,((n:Int),())),s.r rip fl nx)=some ((s.ld a n).1,(s.ld a n).2.r rip fl nx):=by
 obtain⟨n1,n8⟩:=dq hn
 unfold bp MS.r MS.ld
 dsimp only
 by_cases hc:s.code=0
 ·rw[hc,if_neg (by simp),bc rfl,ce,aj,vG _ hs.m.r a n n1 n8 ha,aa]
  dsimp only
  rw[DV (Nat.le_trans hs.l hk),aH]
  rfl
 ·rw[if_pos hc,aq hc,cP,aH]
theorem xu {s:MS}{k:Nat}(hs:s.ok k)(hk:k≤1000){a v:Int}(ha:I64 a)(hv:I64 v){n:Nat}(hn:b8 (n:Int)=true)(rip fl nx:Int):
  ba ((a,((n:Int),(v,()))),s.r rip fl nx)=some ((),(s.st a n v).r rip fl nx):=by
 unfold ba MS.r MS.st
 dsimp only
 by_cases hc:s.code=0
 ·rw[hc,if_neg (by simp),bc rfl,ce,aj,wG _ hs.m a v n hn ha,aa,bn hv n hn,aa]
  dsimp only
  rw[DV (Nat.le_trans hs.l hk),aH]
  rfl
 ·rw[if_pos hc,aq hc,cP,aH]
theorem get_r {s:MS}{k:Nat}(hs:s.ok k)(hk:k≤1000){o:Opd}{n:Nat}(hn:b8 (n:Int)=true)(hv:OpV o n)(rip fl nx:Int):
  az ((cL o (),((n:Int),())),s.r rip fl nx)=some ((s.rd nx o n).1,(s.rd nx o n).2.r rip fl nx):=by
 have hI:=kI (g:=s.g) (nx:=nx) hv
 have hl:=BJ hs hk hI hn rip fl nx
 have hg:=(hs.ld (ml s.g nx o) n).2.2
 unfold az MS.rd
 dsimp only[cL]
 by_cases h1:o.kind=1
 ·have hr:=hv.r (by omega) h1
  rw[if_pos h1,bc h1,aH]
  have h:=qe (rip:=rip) (fl:=fl) hs.g hn hr
  unfold MS.r
  dsimp only
  rw[h,aa]
 ·rw[if_neg h1,aq h1,aj]
  by_cases h2:o.kind=2
  ·rw[if_pos h2,bc h2,aH]
   have h:=kR (g:=s.g) (rip:=rip) (fl:=fl) (nx:=nx) (hv.b h2)
   unfold MS.r at hl⊢
   unfold cL at h
   dsimp only at hl⊢
   rw[h,aa]
   dsimp only
   rw[hl,aa]
   dsimp only
   rw[hg.1,hg.2]
  ·rw[if_neg h2,aq h2,aj]
theorem put_r {s:MS}{k:Nat}(hs:s.ok k)(hk:k≤1000){o:Opd}{n:Nat}{v:Int}(hI:I64 v)(hn:b8 (n:Int)=true)(hv:OpV o n)(h0:o.kind=1∨o.kind=2)(rip fl nx:Int):
  aJ ((cL o (),((n:Int),(v,()))),s.r rip fl nx)=some ((),(s.wr nx o n v).r rip fl nx):=by
 have hA:=kI (g:=s.g) (nx:=nx) hv
 have hl:=xu hs hk (v:=v) hA hI hn rip fl nx
 have hg:=(hs.st (v:=v) hA hn).2
 unfold aJ MS.wr
 dsimp only[cL]
 by_cases h2:o.kind=2
 ·rw[if_pos h2,aq (by omega),aj]
  have h:=kR (g:=s.g) (rip:=rip) (fl:=fl) (nx:=nx) (hv.b h2)
  unfold MS.r at hl⊢
  unfold cL at h
  dsimp only at hl⊢
  rw[h,aa]
  dsimp only
  rw[hl,aa]
  dsimp only
  rw[hg]
 ·have h1:o.kind=1:=by omega
  have hr:=hv.r h2 h1
  rw[if_neg h2,bc h1,aH]
  have h:=jy (rip:=rip) (fl:=fl) hs.g hI hn hr
  unfold MS.r
  dsimp only
  rw[h,aa]
theorem push_r {s:MS}{k:Nat}(hs:s.ok k)(hk:k≤1000){v:Int}(hv:I64 v)(rip fl nx:Int):cb ((v,()),s.r rip fl nx)=some ((),(s.pu v).r rip fl nx):=by
 have h1:=hs.setA (i:=4) (v:=aV .i64 (rg s.g 4) 8) (ar _)
 have h2:=xu h1 hk (a:=rg (setA s.g 4 (aV .i64 (rg s.g 4) 8)) 4) (v:=v) (n:=8) (h1.g 4) hv rfl rip fl nx
 have h3:=(h1.st (a:=rg (setA s.g 4 (aV .i64 (rg s.g 4) 8)) 4) (n:=8) (h1.g 4) rfl v).2
 have e:aG .i64 (rg s.g 4) (-8)=aV .i64 (rg s.g 4) 8:=by unfold aG aV;rw[Int.sub_eq_add_neg]
 unfold cb
 unfold MS.r at h2⊢
 dsimp only at h2 h3⊢
 have e':aY (((aQ s.g 4 (aB .i)),(-8,())),())=some (aV .i64 (rg s.g 4) 8,()):=by rw[ej];rw[←e]
 rw[e',aa]
 dsimp only
 have h2':ba (((aQ (cr (dP 16 (aB .i) s.g) 4 (aV .i64 (rg s.g 4) 8)) 4 (aB .i)),(8,(v,()))),(((cr (dP 16 (aB .i) s.g) 4 (aV .i64 (rg s.g 4) 8)),(rip,(fl,(s.m,(nx,(s.code,())))))),(s.l,())))=_:=h2
 rw[h2',aa]
 unfold MS.pu
 dsimp only
 rw[h3]
 rfl
theorem pop_r {s:MS}{k:Nat}(hs:s.ok k)(hk:k≤1000)(rip fl nx:Int):cn ((),s.r rip fl nx)=some (s.po.1,s.po.2.r rip fl nx):=by
 have h2:=BJ hs hk (a:=rg s.g 4) (n:=8) (hs.g 4) rfl rip fl nx
 have h3:=(hs.ld (rg s.g 4) 8).2.2
 unfold cn
 unfold MS.r at h2⊢
 dsimp only at h2⊢
 have h2':bp (((aQ s.g 4 (aB .i)),(8,())),((s.g,(rip,(fl,(s.m,(nx,(s.code,())))))),(s.l,())))=_:=h2
 rw[h2',aa,ej,aa]
 unfold MS.po
 dsimp only
 rw[h3.2]
 rfl
theorem goal_r {s:MS}{k:Nat}(hs:s.ok k)(hk:k≤1000){x:Ins}(hv:OpV x.src 8)(rip fl nx:Int):bC ((x,()),s.r rip fl nx)=some ((s.go nx x).1,(s.go nx x).2.r rip fl nx):=by
 have hr:=get_r hs hk (n:=8) rfl hv rip fl nx
 have hg:=(hs.rd nx (n:=8) rfl hv).2.2
 unfold bC MS.go
 dsimp only
 by_cases h3:x.src.kind=3
 ·rw[bc h3,aH,if_pos h3]
  have h:=ej nx x.src.imm
  unfold MS.r
  dsimp only
  rw[h,aa]
 ·rw[aq h3,aj,if_neg h3]
  have hr':az ((cL x.src (),(8,())),s.r rip fl nx)=_:=hr
  rw[hr',aa]
  unfold MS.r
  dsimp only
  rw[hg.1,hg.2]
end
set_option linter.unusedSectionVars false
noncomputable section
theorem gtq {g:List Int}{m:List Page}{c:Int}{l:List Acc}{k:Nat}(hs:(MS.mk g m c l).ok k)(hk:k≤1000){o:Opd}{n:Nat}(hn:b8 (n:Int)=true)(hv:OpV o n)(nx:Int):
  ∃v c' l',(MS.mk g m c l).rd nx o n=(v,⟨g,m,c',l'⟩)∧(∀rip fl,az ((cL o (),((n:Int),())),((g,rip,fl,m,nx,c,()),l,()))=some (v,((g,rip,fl,m,nx,c',()),l',())))∧(MS.mk g m c' l').ok (k+1)∧I64 v:=by
 obtain⟨h1,h2,h3,h4⟩:=hs.rd nx hn hv
 have h5:=fun rip fl=>get_r hs hk hn hv rip fl nx
 obtain⟨v,c',l',e⟩:=zK h3 h4
 rw[e]at h1 h2
 refine⟨v,c',l',e,fun rip fl=>?_,h1,h2⟩
 have:=h5 rip fl
 rw[e]at this
 exact this
theorem ptq {g:List Int}{m:List Page}{c:Int}{l:List Acc}{k:Nat}(hs:(MS.mk g m c l).ok k)(hk:k≤1000){o:Opd}{n:Nat}(hn:b8 (n:Int)=true)(hv:OpV o n)(h0:o.kind=1∨o.kind=2)(nx:Int){v:Int}(hI:I64 v):
  ∃g' m' c' l',(MS.mk g m c l).wr nx o n v=⟨g',m',c',l'⟩∧(∀rip fl,aJ ((cL o (),((n:Int),(v,()))),((g,rip,fl,m,nx,c,()),l,()))=some ((),((g',rip,fl,m',nx,c',()),l',())))∧(MS.mk g' m' c' l').ok (k+1):=
 ⟨_,_,_,_,rfl,fun rip fl=>put_r hs hk hI hn hv h0 rip fl nx,hs.wr nx hI hn hv⟩
theorem puq {g:List Int}{m:List Page}{c:Int}{l:List Acc}{k:Nat}(hs:(MS.mk g m c l).ok k)(hk:k≤1000){v:Int}(hv:I64 v):
  ∃g' m' c' l',(MS.mk g m c l).pu v=⟨g',m',c',l'⟩∧(∀rip fl nx,cb ((v,()),((g,rip,fl,m,nx,c,()),l,()))=some ((),((g',rip,fl,m',nx,c',()),l',())))∧(MS.mk g' m' c' l').ok (k+1):=
 ⟨_,_,_,_,rfl,fun rip fl nx=>push_r hs hk hv rip fl nx,hs.pu v⟩
theorem poq {g:List Int}{m:List Page}{c:Int}{l:List Acc}{k:Nat}(hs:(MS.mk g m c l).ok k)(hk:k≤1000):
  ∃v g' c' l',(MS.mk g m c l).po=(v,⟨g',m,c',l'⟩)∧(∀rip fl nx,cn ((),((g,rip,fl,m,nx,c,()),l,()))=some (v,((g',rip,fl,m,nx,c',()),l',())))∧(MS.mk g' m c' l').ok (k+1)∧I64 v:=by
 obtain⟨h1,h2,h3⟩:=hs.po
 have h5:=fun rip fl nx=>pop_r hs hk rip fl nx
 obtain⟨v,g',c',l',e⟩:∃v g' c' l',(MS.mk g m c l).po=(v,MS.mk g' m c' l'):=by
  generalize (MS.mk g m c l).po=r at h3
  obtain⟨v,g',m',c',l'⟩:=r
  cases h3
  exact⟨v,g',c',l',rfl⟩
 rw[e]at h1 h2
 refine⟨v,g',c',l',e,fun rip fl nx=>?_,h1,h2⟩
 have:=h5 rip fl nx
 rw[e]at this
 exact this
theorem goq {g:List Int}{m:List Page}{c:Int}{l:List Acc}{k:Nat}(hs:(MS.mk g m c l).ok k)(hk:k≤1000){x:Ins}(hv:OpV x.src 8)(nx:Int):
  ∃v c' l',(MS.mk g m c l).go nx x=(v,⟨g,m,c',l'⟩)∧(∀rip fl,bC ((x,()),((g,rip,fl,m,nx,c,()),l,()))=some (v,((g,rip,fl,m,nx,c',()),l',())))∧(MS.mk g m c' l').ok (k+1)∧I64 v:=by
 obtain⟨h1,h2⟩:=hs.go nx hv
 have h5:=fun rip fl=>goal_r hs hk hv rip fl nx
 have h3:((MS.mk g m c l).go nx x).2.g=g∧((MS.mk g m c l).go nx x).2.m=m:=by
  unfold MS.go
  split
  ·exact⟨rfl,rfl⟩
  ·exact(hs.rd nx (n:=8) rfl hv).2.2
 obtain⟨v,c',l',e⟩:=zK h3.1 h3.2
 rw[e]at h1 h2
 refine⟨v,c',l',e,fun rip fl=>?_,h1,h2⟩
 have:=h5 rip fl
 rw[e]at this
 exact this
theorem ldq {g:List Int}{m:List Page}{c:Int}{l:List Acc}{k:Nat}(hs:(MS.mk g m c l).ok k)(hk:k≤1000){a:Int}(ha:I64 a){n:Nat}(hn:b8 (n:Int)=true):
  ∃v c' l',(MS.mk g m c l).ld a n=(v,⟨g,m,c',l'⟩)∧(∀rip fl nx,bp ((a,((n:Int),())),((g,rip,fl,m,nx,c,()),l,()))=some (v,((g,rip,fl,m,nx,c',()),l',())))∧(MS.mk g m c' l').ok (k+1)∧I64 v:=by
 obtain⟨h1,h2,h3,h4⟩:=hs.ld a n
 have h5:=fun rip fl nx=>BJ hs hk ha hn rip fl nx
 obtain⟨v,c',l',e⟩:=zK h3 h4
 rw[e]at h1 h2
 refine⟨v,c',l',e,fun rip fl nx=>?_,h1,h2⟩
 have:=h5 rip fl nx
 rw[e]at this
 exact this
theorem stq {g:List Int}{m:List Page}{c:Int}{l:List Acc}{k:Nat}(hs:(MS.mk g m c l).ok k)(hk:k≤1000){a:Int}(ha:I64 a){n:Nat}(hn:b8 (n:Int)=true){v:Int}(hv:I64 v):
  ∃m' c' l',(MS.mk g m c l).st a n v=⟨g,m',c',l'⟩∧(∀rip fl nx,ba ((a,((n:Int),(v,()))),((g,rip,fl,m,nx,c,()),l,()))=some ((),((g,rip,fl,m',nx,c',()),l',())))∧(MS.mk g m' c' l').ok (k+1):=by
 obtain⟨h1,h2⟩:=hs.st ha hn v
 have h5:=fun rip fl nx=>xu hs hk ha hv hn rip fl nx
 obtain⟨m',c',l',e⟩:∃m' c' l',(MS.mk g m c l).st a n v=⟨g,m',c',l'⟩:=by
  generalize (MS.mk g m c l).st a n v=r at h2
  obtain⟨g',m',c',l'⟩:=r
  cases h2
  exact⟨m',c',l',rfl⟩
 rw[e]at h1
 refine⟨m',c',l',e,fun rip fl nx=>?_,h1⟩
 have:=h5 rip fl nx
 rw[e]at this
 exact this
def RelR (S:MS)(nx fl:Int)(e:MS×Int×Int):Prop:=S.l=e.1.l∧S.code=e.1.code∧(e.1.code=0→S=e.1∧nx=e.2.1∧fl=e.2.2)
theorem RelR.same {S:MS}{nx fl:Int}{e:MS×Int×Int}(h:e=(S,nx,fl)):RelR S nx fl e:=by subst h;exact⟨rfl,rfl,fun _=>⟨rfl,rfl,rfl⟩⟩
def eZ (g:List Int)(m:List Page)(c:Int)(l:List Acc)(x:Ins)(rip fl nx:Int)(e:MS×Int×Int):Prop:=
 ∃S fl' nx',aR ((x,()),((g,rip,fl,m,nx,c,()),l,()))=some ((),S.r rip fl' nx')∧RelR S nx' fl' e
theorem AC {α β:Type}(n:Nat)(X:α):br (leI (n:Int) 8) (some (Sum.inl (((leI (n:Int) 8),()),X):Sum ((Bool×Unit)×α) β)) (some (Sum.inl (((eqI (n:Int) 10),()),X)))=some (Sum.inl ((decide (n≤8∨n=10),()),X)):=by
 by_cases h:n≤8
 ·rw[eY (show(n:Int)≤8 by omega),aH,decide_eq_true (by omega)]
 ·rw[jI (show ¬(n:Int)≤8 by omega),aj]
  by_cases h2:n=10
  ·rw[bc (show(n:Int)=10 by omega),decide_eq_true (by omega)]
  ·rw[aq (show ¬(n:Int)=10 by omega),decide_eq_false (by omega)]
theorem Di {α R:Type}(n:Nat)(X:α):
  (br (eqI (n:Int) 11) (some (Sum.inl (((eqI (n:Int) 11),()),X))) (bnd (br (eqI (n:Int) 12) (some (Sum.inl (((eqI (n:Int) 12),()),X))) (bnd (br (eqI (n:Int) 18) (some (Sum.inl (((eqI (n:Int) 18),()),X))) (some (Sum.inl (((eqI (n:Int) 19),()),X)))) (fun(x9:Sum ((Bool×Unit)×α) (Sum ((Bool×Unit)×α) (Sum ((Bool×Unit)×α) R)))=>(aW x9 (fun x10=>(some (Sum.inl x10))) some)))) (fun(x11:Sum ((Bool×Unit)×α) (Sum ((Bool×Unit)×α) R))=>(aW x11 (fun x12=>(some (Sum.inl x12))) some))))=some (Sum.inl ((decide (n=11∨n=12∨n=18∨n=19),()),X)):=by
 by_cases h1:n=11
 ·rw[bc (show(n:Int)=11 by omega),aH,decide_eq_true (by omega)]
 rw[aq (show ¬(n:Int)=11 by omega),aj]
 by_cases h2:n=12
 ·rw[bc (show(n:Int)=12 by omega),aH,aa,ag,decide_eq_true (by omega)]
 rw[aq (show ¬(n:Int)=12 by omega),aj]
 by_cases h3:n=18
 ·rw[bc (show(n:Int)=18 by omega),aH,aa,ag,aa,ag,decide_eq_true (by omega)]
 rw[aq (show ¬(n:Int)=18 by omega),aj,aa,ag,aa,ag]
 by_cases h4:n=19
 ·rw[bc (show(n:Int)=19 by omega),decide_eq_true (by omega)]
 ·rw[aq (show ¬(n:Int)=19 by omega),decide_eq_false (by omega)]
theorem put_ne (n:Nat):br (aX (eqI (n:Int) 8)) (some (aX (eqI (n:Int) 10))) (some false)=some (decide (n≠8∧n≠10)):=by
 by_cases a8:n=8
 ·rw[bc (show(n:Int)=8 by omega),ce,aj,decide_eq_false (by omega)]
 ·rw[aq (show ¬(n:Int)=8 by omega),cP,aH]
  by_cases a10:n=10
  ·rw[bc (show(n:Int)=10 by omega),ce,decide_eq_false (by omega)]
  ·rw[aq (show ¬(n:Int)=10 by omega),cP,decide_eq_true (by omega)]
end
set_option linter.unusedSectionVars false
noncomputable section
theorem CC {w v op a f:Int}{z:Nat}(h:w%64=v%64):iN op z a w f=iN op z a v f:=by
 unfold iN
 have:xk z w=xk z v:=by unfold xk;split<;>omega
 rw[this]
section
variable {g:List Int}{m:List Page}{c:Int}{l:List Acc}{k:Nat}(hs:(MS.mk g m c l).ok k)(hk:k+4≤1000){x:Ins}{n z:Nat}{rip fl nx:Int}
include hs hk
theorem Ck (hx:ExV x n)(hz:x.size=z)(hn:n≤8∨n=10):eZ g m c l x rip fl nx (((MS.mk g m c l).reck nx fl x n z).1,nx,((MS.mk g m c l).reck nx fl x n z).2):=by
 have hop:=hx.op
 have hz':b8 (z:Int)=true:=by rw[←hz];exact hx.szs.1 (by omega)
 have hdv:=hx.dv
 have hsv:=hx.sv
 have hss2:=(pw hx (by omega) hz hz').2
 have hsz:yR n z=z:=by unfold yR;rw[if_neg (by omega)]
 have hks:=hx.kd.2.2.2.2.2.2.2.2.2.2 (by omega)
 rw[hz]at hdv
 rw[hss2,hsz]at hsv
 obtain⟨v1,c1,l1,e1,r1,ok1,I1⟩:=gtq hs (by omega) hz' hdv nx
 obtain⟨v2,c2,l2,e2,r2,ok2,I2⟩:=gtq ok1 (by omega) hz' hsv nx
 have hrk:nM n z v1 v2 fl=vZ n z v1 v2 fl:=by unfold nM;rw[if_pos hn]
 have rI:=(Aq (op:=(n:Int)) (b:=v2) (f:=fl) hz' I1).1
 have hre:(MS.mk g m c l).reck nx fl x n z=(if n≠8∧n≠10 then(MS.mk g m c2 l2).wr nx x.dst z (vZ n z v1 v2 fl).1 else MS.mk g m c2 l2,(vZ n z v1 v2 fl).2):=by
  unfold MS.reck MS.rd0
  dsimp only
  rw[e1,if_pos (show x.src.kind≠0 by omega),hsz]
  dsimp only
  rw[e2]
  dsimp only
  rw[hrk]
 rw[hre]
 have hA:=By (op:=(n:Int)) (f:=fl) hz' I1 I2
 generalize vZ (n:Int) z v1 v2 fl=A at rI hA⊢
 obtain⟨A,f'⟩:=A
 dsimp only at rI hA⊢
 unfold cL at r1 r2
 unfold eZ aR
 dsimp only
 rw[hop,AC,aa,ag,decide_eq_true hn]
 dsimp only[dA,cL,cp7,d5,d11]
 rw[aH,hop,hz,r1,aa]
 dsimp only
 rw[r2,aa]
 dsimp only
 rw[hA,aa,put_ne,aa]
 dsimp only
 by_cases h:n≠8∧n≠10
 ·obtain⟨g',m',c',l',e3,r3,ok3⟩:=ptq ok2 (by omega) hz' hdv (hx.kd.1 (by omega)) nx rI
  unfold cL at r3
  rw[decide_eq_true h,aH,if_pos h,e3,r3,aa]
  exact⟨⟨g',m',c',l'⟩,f',nx,rfl,.same rfl⟩
 ·rw[decide_eq_false h,aj,if_neg h]
  exact⟨⟨g,m,c2,l2⟩,f',nx,rfl,.same rfl⟩
theorem Cl (hx:ExV x n)(hz:x.size=z)(hI:I64 fl)(hf:bN fl=true)(hn:n=11∨n=12∨n=18∨n=19):eZ g m c l x rip fl nx (((MS.mk g m c l).reck nx fl x n z).1,nx,((MS.mk g m c l).reck nx fl x n z).2):=by
 have hop:=hx.op
 have hz':b8 (z:Int)=true:=by rw[←hz];exact hx.szs.1 (by omega)
 have hdv:=hx.dv
 have hks:=hx.kd.2.2.2.2.2.2.2.2.2.1 (by omega)
 rw[hz]at hdv
 obtain⟨v1,c1,l1,e1,r1,ok1,I1⟩:=gtq hs (by omega) hz' hdv nx
 have hrk:nM n z v1 0 fl=wX n z v1 fl:=by unfold nM;rw[if_neg (by omega),if_pos (by omega)]
 have hre:(MS.mk g m c l).reck nx fl x n z=((MS.mk g m c1 l1).wr nx x.dst z (wX n z v1 fl).1,(wX n z v1 fl).2):=by
  unfold MS.reck MS.rd0
  dsimp only
  rw[e1,if_neg (show ¬x.src.kind≠0 by omega)]
  dsimp only
  rw[hrk,if_pos (show n≠8∧n≠10 by omega)]
 rw[hre]
 have hA:=Bz (op:=(n:Int)) (f:=fl) hz' I1
 have rI:=(Cf (op:=(n:Int)) (a:=v1) hz' hI hf).1
 generalize wX (n:Int) z v1 fl=A at rI hA⊢
 obtain⟨A,f'⟩:=A
 dsimp only at rI hA⊢
 obtain⟨g',m',c',l',e3,r3,ok3⟩:=ptq ok1 (by omega) hz' hdv (hx.kd.1 (by omega)) nx rI
 unfold cL at r1 r3
 unfold eZ aR
 dsimp only
 rw[hop,AC,aa,ag,decide_eq_false (by omega)]
 dsimp only
 rw[aj,show(dA x ()).1=(n:Int)from hop,Di,aa,ag,decide_eq_true hn]
 dsimp only[dA,cL,cp7,d5,d11]
 rw[aH,hop,hz,r1,aa]
 dsimp only
 rw[hA,aa]
 dsimp only
 rw[r3,aa,e3]
 exact⟨⟨g',m',c',l'⟩,f',nx,rfl,.same rfl⟩
theorem xb (hx:ExV x n)(hz:x.size=z)(hI:I64 fl)(hf:bN fl=true)(hn:20≤n∧n≤24):eZ g m c l x rip fl nx (((MS.mk g m c l).reck nx fl x n z).1,nx,((MS.mk g m c l).reck nx fl x n z).2):=by
 have hop:=hx.op
 have hz':b8 (z:Int)=true:=by rw[←hz];exact hx.szs.1 (by omega)
 have hdv:=hx.dv
 have hsv:=hx.sv
 have hss2:=(pw hx (by omega) hz hz').2
 have hsz:yR n z=8:=by unfold yR;rw[if_pos (by omega)]
 have hks:=hx.kd.2.2.2.2.2.2.2.2.1 (by omega)
 rw[hz]at hdv
 rw[hss2,hsz]at hsv
 have hsv1:OpV x.src ((1:Nat):Int):=by
  refine⟨fun h2 h1=>?_,hsv.b,hsv.d,hsv.i⟩
  have:=hsv.r h2 h1
  unfold qF at this⊢
  omega
 obtain⟨v1,c1,l1,e1,r1,ok1,I1⟩:=gtq hs (by omega) hz' hdv nx
 have hw:∃w v,(∀rip fl,az ((cL x.src (),(1,())),((g,rip,fl,m,nx,c,()),l,()))=some (w,((g,rip,fl,m,nx,c,()),l,())))∧(MS.mk g m c1 l1).rd nx x.src 8=(v,MS.mk g m c1 l1)∧w%64=bO v 1%64:=by
  have h5:=fun rip fl=>get_r hs (by omega) (n:=1) rfl hsv1 rip fl nx
  unfold MS.rd at h5⊢
  rcases hks with h1|h3
  ·rw[if_pos h1]
   have hr:=hsv.r (by omega) h1
   unfold qF at hr
   refine⟨jQ g x.src.reg 1,jQ g x.src.reg 8,fun rip fl=>?_,rfl,?_⟩
   ·have:=h5 rip fl
    rw[if_pos h1]at this
    exact this
   ·unfold jQ
    rw[if_neg (by omega),if_neg (by omega)]
    have e8:bO (rg g x.src.reg) 8=rg g x.src.reg:=if_pos rfl
    rw[e8]
  ·rw[if_neg (by omega),if_neg (by omega)]
   refine⟨x.src.imm,x.src.imm,fun rip fl=>?_,rfl,?_⟩
   ·have:=h5 rip fl
    rw[if_neg (by omega),if_neg (by omega)]at this
    exact this
   ·unfold bO
    rw[if_neg (by decide),show(2:Int)^(8*1)=256 from rfl]
    omega
 obtain⟨w,v2,r2,e2,hwv⟩:=hw
 have hrk:nM n z v1 v2 fl=iN n z v1 w fl:=by
  unfold nM
  rw[if_neg (by omega),if_neg (by omega),if_pos (by omega)]
  exact(CC hwv).symm
 have hre:(MS.mk g m c l).reck nx fl x n z=((MS.mk g m c1 l1).wr nx x.dst z (iN n z v1 w fl).1,(iN n z v1 w fl).2):=by
  unfold MS.reck MS.rd0
  dsimp only
  rw[e1,if_pos (show x.src.kind≠0 by omega),hsz]
  dsimp only
  rw[e2]
  dsimp only
  rw[hrk,if_pos (show n≠8∧n≠10 by omega)]
 rw[hre]
 have hA:=wJ (op:=(n:Int)) (k:=w) (f:=fl) (by omega) hz' I1
 have rI:=(vB (op:=(n:Int)) (k:=w) hz' I1 hI hf).1
 generalize iN (n:Int) z v1 w fl=A at rI hA⊢
 obtain⟨A,f'⟩:=A
 dsimp only at rI hA⊢
 obtain⟨g',m',c',l',e3,r3,ok3⟩:=ptq ok1 (by omega) hz' hdv (hx.kd.1 (by omega)) nx rI
 unfold cL at r1 r2 r3
 unfold eZ aR
 dsimp only
 rw[hop,AC,aa,ag,decide_eq_false (by omega)]
 dsimp only
 rw[aj,show(dA x ()).1=(n:Int)from hop,Di,aa,ag,decide_eq_false (by omega)]
 dsimp only
 rw[aj,show(dA x ()).1=(n:Int)from hop,di,cN,aa,decide_eq_true (by omega)]
 dsimp only[dA,cL,cp7,d5,d11]
 rw[aH,hz,r2,aa]
 dsimp only
 rw[r1,aa]
 dsimp only
 rw[hA,aa]
 dsimp only
 rw[r3,aa,e3]
 exact⟨⟨g',m',c',l'⟩,f',nx,rfl,.same rfl⟩
theorem zH (hx:ExV x 17)(hz:x.size=z)(hI:I64 fl)(hf:bN fl=true):eZ g m c l x rip fl nx (((MS.mk g m c l).reck nx fl x 17 z).1,nx,((MS.mk g m c l).reck nx fl x 17 z).2):=by
 have hop:=hx.op
 have hz':b8 (z:Int)=true:=by rw[←hz];exact hx.szs.1 (by omega)
 have hdv:=hx.dv
 have hsv:=hx.sv
 have hss2:=(pw hx (by omega) hz hz').2
 have hsz:yR 17 z=z:=by unfold yR;rw[if_neg (by omega)]
 have hks:=hx.kd.2.2.2.2.2.2.2.2.2.2 (by omega)
 rw[hz]at hdv
 rw[hss2,hsz]at hsv
 obtain⟨v1,c1,l1,e1,r1,ok1,I1⟩:=gtq hs (by omega) hz' hdv nx
 obtain⟨v2,c2,l2,e2,r2,ok2,I2⟩:=gtq ok1 (by omega) hz' hsv nx
 have hrk:nM 17 z v1 v2 fl=((qm (17:Nat) z v1 v2 fl).1,(qm (17:Nat) z v1 v2 fl).2.2):=by
  unfold nM;rw[if_neg (by omega),if_neg (by omega),if_neg (by omega)]
 have hre:(MS.mk g m c l).reck nx fl x 17 z=((MS.mk g m c2 l2).wr nx x.dst z (qm (17:Nat) z v1 v2 fl).1,(qm (17:Nat) z v1 v2 fl).2.2):=by
  unfold MS.reck MS.rd0
  dsimp only
  rw[e1,if_pos (show x.src.kind≠0 by omega),hsz]
  dsimp only
  rw[e2]
  dsimp only
  rw[hrk,if_pos (show(17:Nat)≠8∧(17:Nat)≠10 by omega)]
 rw[hre]
 have hA:=mw (op:=((17:Nat):Int)) (f:=fl) hz' I1 I2
 have rI:=(s9 (op:=((17:Nat):Int)) (n:=z) (a:=v1) (b:=v2) hI hf).1
 generalize qm ((17:Nat):Int) z v1 v2 fl=A at rI hA⊢
 obtain⟨A,A2,f'⟩:=A
 dsimp only at rI hA⊢
 obtain⟨g',m',c',l',e3,r3,ok3⟩:=ptq ok2 (by omega) hz' hdv (hx.kd.1 (by omega)) nx rI
 unfold cL at r1 r2 r3
 unfold eZ aR
 dsimp only
 rw[hop,AC,aa,ag,decide_eq_false (by omega)]
 dsimp only
 rw[aj,show(dA x ()).1=((17:Nat):Int)from hop,Di,aa,ag,decide_eq_false (by omega)]
 dsimp only
 rw[aj,show(dA x ()).1=((17:Nat):Int)from hop,di,cN,aa,decide_eq_false (by omega)]
 dsimp only
 rw[aj,bc (show((17:Nat):Int)=17 by omega),aH]
 dsimp only[dA,cL,cp7,d5,d11]
 rw[hz,r1,aa]
 dsimp only
 rw[r2,aa]
 dsimp only
 rw[hA,aa]
 dsimp only
 rw[r3,aa,e3]
 exact⟨⟨g',m',c',l'⟩,f',nx,rfl,.same rfl⟩
end
end
end Go.Den.G
