/- Theory for the proofs of this claim: see its last text. -/
import Derived.Test.YtmpliclmlpjopaaGreatFnStepCpu
import Derived.Test.YtmpliclmlpjopaaGreatDenF
import Derived.KernelRfl
import Derived.Laws.MathBits
import Derived.Test.YtmpliclmlpjopaaGreatPaStepCpu
namespace Go.Den.G
open Go.Den
set_option maxRecDepth 100000
theorem ss {h l d:Int}:
  dI ((h,l,d,()),())=some (if uns d≤uns h then((0,0,16,()),())else((IntKind.wrap .i64 (((uns h*18446744073709551616+uns l)/uns d:Nat):Int),IntKind.wrap .i64 (((uns h*18446744073709551616+uns l)%uns d:Nat):Int),0,()),())):=by
 unfold dI df
 dsimp only
 rw[aa,eG,eG,eG]
 dsimp only
 by_cases hc:uns d≤uns h
 ·rw[gH (by omega),dw,aI,if_pos hc]
 ·rw[ij (by omega),cf,aj,DD (by omega) (eH d) (eH l),aa,if_neg hc]
  rfl
theorem Dd {n:Nat}(hn:co (n:Int)=true)(d:Int):sx (8*n-1) (bZ d n)=sx (8*n-1) d:=by
 have h18:=dR hn
 unfold bZ
 by_cases h8:n=8
 ·rw[if_pos h8]
 ·rw[if_neg h8]
  have h3:n=1∨n=2∨n=4:=by rcases wd hn with h|h|h|h<;>omega
  unfold sx
  rcases h3 with rfl|rfl|rfl
  ·rw[show(2:Int)^(8*1-1+1)=256 from rfl,show(2:Int)^(8*1-1)=128 from rfl,show(2:Int)^64=18446744073709551616 from rfl]
   split<;>split<;>omega
  ·rw[show(2:Int)^(8*2-1+1)=65536 from rfl,show(2:Int)^(8*2-1)=32768 from rfl,show(2:Int)^64=18446744073709551616 from rfl]
   split<;>split<;>omega
  ·rw[show(2:Int)^(8*4-1+1)=4294967296 from rfl,show(2:Int)^(8*4-1)=2147483648 from rfl,show(2:Int)^64=18446744073709551616 from rfl]
   split<;>split<;>omega
def uq (M B:Nat):Bool:=decide (B*18446744073709551616≤M)
def ur (t:Bool)(n q:Nat):Bool:=if t=true then decide (2^(8*n-1)<q)else decide (2^(8*n-1)≤q)
def At (X D:Int):Bool:=decide (X<0) != decide (D<0)
def negI (t:Bool)(q:Nat):Int:=if t=true then -(q:Int)else(q:Int)
def F5 (sg:Bool)(n:Nat)(X D:Int)(q r:Nat):Int×Int×Bool:=
 if uq X.natAbs D.natAbs=true then(0,0,false)
 else if sg=false then(ku n (q:Int),ku n (r:Int),decide (q<2^(8*n)))
 else if ur (At X D) n q=true then(0,0,false)
 else(ku n (negI (At X D) q),ku n (negI (decide (X<0)) r),true)
def sI (op:Int)(n:Nat)(hi lo d:Int):Int×Int×Bool:=
 F5 (decide (op=16)) n (nn (decide (op=16)) n hi lo) (mz (decide (op=16)) n d) ((nn (decide (op=16)) n hi lo).natAbs/(mz (decide (op=16)) n d).natAbs) ((nn (decide (op=16)) n hi lo).natAbs%(mz (decide (op=16)) n d).natAbs)
theorem pv {n:Nat}(hn:co (n:Int)=true)(z:Int):bZ (IntKind.wrap .i64 z) n=ku n z:=by
 refine ou hn (au _) ?_
 rw[b9,bn,Int.emod_emod_of_dvd z (by have:=Ba (dR hn).2;exact this)]
theorem kK {a b:Int}(h:a%18446744073709551616=b%18446744073709551616):IntKind.wrap .i64 a=IntKind.wrap .i64 b:=by
 simp only[IntKind.wrap,IntKind.bits,show(2:Int)^64=18446744073709551616 from rfl,h]
theorem l6 (x:Int):IntKind.wrap .i64 x%18446744073709551616=x%18446744073709551616:=by
 have:=b9 x
 have h1:=bn (IntKind.wrap .i64 x)
 have h2:=bn x
 rw[this]at h1
 rw[show(2:Int)^64=18446744073709551616 from rfl]at h1 h2
 omega
theorem yK (z:Int):aZ .i64 0 (IntKind.wrap .i64 z)=IntKind.wrap .i64 (-z):=by
 unfold aZ
 refine kK ?_
 have:=l6 z
 omega
theorem A0 {sg:Bool}{n:Nat}(hn:co (n:Int)=true)(hi lo:Int): -170141183460469231731687303715884105728≤nn sg n hi lo∧nn sg n hi lo<340282366920938463463374607431768211456∧(sg=false→0≤nn sg n hi lo):=by
 have hlt:=km n hi lo
 unfold nn
 generalize mO n hi lo=N at*
 rcases wd hn with rfl|rfl|rfl|rfl
 ·rw[show(2:Nat)^(16*1)=65536 from rfl]at hlt
  rw[show(2:Nat)^(16*1-1)=32768 from rfl,show(2:Int)^(16*1)=65536 from rfl]
  split
  ·rename_i h;exact⟨by omega,by omega,fun g=>by rw[g]at h;cases h.1⟩
  ·omega
 ·rw[show(2:Nat)^(16*2)=4294967296 from rfl]at hlt
  rw[show(2:Nat)^(16*2-1)=2147483648 from rfl,show(2:Int)^(16*2)=4294967296 from rfl]
  split
  ·rename_i h;exact⟨by omega,by omega,fun g=>by rw[g]at h;cases h.1⟩
  ·omega
 ·rw[show(2:Nat)^(16*4)=18446744073709551616 from rfl]at hlt
  rw[show(2:Nat)^(16*4-1)=9223372036854775808 from rfl,show(2:Int)^(16*4)=18446744073709551616 from rfl]
  split
  ·rename_i h;exact⟨by omega,by omega,fun g=>by rw[g]at h;cases h.1⟩
  ·omega
 ·rw[show(2:Nat)^(16*8)=340282366920938463463374607431768211456 from rfl]at hlt
  rw[show(2:Nat)^(16*8-1)=170141183460469231731687303715884105728 from rfl,show(2:Int)^(16*8)=340282366920938463463374607431768211456 from rfl]
  split
  ·rename_i h;exact⟨by omega,by omega,fun g=>by rw[g]at h;cases h.1⟩
  ·omega
set_option maxRecDepth 100000
theorem BS {n:Nat}(hn:co (n:Int)=true):uns (dF .i64 1 (8*(n:Int)-1))=2^(8*n-1):=by
 rcases wd hn with rfl|rfl|rfl|rfl<;>decide +kernel
theorem t5 (a b:Int):df ((a,b,()),())=some (decide (uns a<uns b),()):=by
 unfold df
 dsimp only
 rw[eG,eG]
 unfold ltI
 simp only[Int.ofNat_lt]
theorem D5 {n:Nat}(hn:co (n:Int)=true){q:Nat}(hq:q<18446744073709551616):eqI (ku n (q:Int)) (IntKind.wrap .i64 (q:Int))=decide (q<2^(8*n)):=by
 unfold eqI
 have h1:=v6 n (dR hn).2 (q:Int)
 have h2:uns (IntKind.wrap .i64 (q:Int))=q:=by rw[b9,fi hq]
 have h3:((q:Int)%2^(8*n)).toNat=q%2^(8*n):=by
  rw[←jO,←Int.natCast_emod,Int.toNat_natCast]
 rw[h3]at h1
 by_cases h:q<2^(8*n)
 ·rw[decide_eq_true h]
  refine decide_eq_true (je (i7 ..) (au _) ?_)
  rw[h1,h2,Nat.mod_eq_of_lt h]
 ·rw[decide_eq_false h]
  refine decide_eq_false (fun he=>?_)
  rw[he,h2]at h1
  have:=Nat.mod_lt q (Nat.two_pow_pos (8*n))
  omega
theorem A4 {op hi lo d:Int}{n:Nat}(hn:co (n:Int)=true)(hh:I64 hi)(hl:I64 lo)(hd:I64 d):
  fo ((op,(n:Int),hi,lo,d,()),())=some (((sI op n hi lo d).1,(sI op n hi lo d).2.1,(sI op n hi lo d).2.2,()),()):=by
 obtain⟨h1,h8⟩:=dR hn
 unfold fo
 dsimp only
 obtain⟨sg,hsg⟩:∃sg:Bool,sg=decide (op=16):=⟨_,rfl⟩
 have heq:eqI op 16=sg:=by rw[hsg];rfl
 rw[heq]
 obtain⟨h,l,e1,hI,lI,hX,hlt⟩:=Bv hn hh hl sg
 rw[e1,aa,bP _ n hn,aa]
 dsimp only
 have hxb:=A0 (sg:=sg) hn hi lo
 unfold sI
 rw[←hsg]
 obtain⟨X,hXe⟩:∃X,X=nn sg n hi lo:=⟨_,rfl⟩
 obtain⟨D,hDe⟩:∃D,D=mz sg n d:=⟨_,rfl⟩
 have hDb:=F8 sg hn d
 rw[←hXe]at hX hlt hxb
 rw[←hDe]at hDb
 rw[←hXe,←hDe]
 obtain⟨q,hq⟩:∃q,q=X.natAbs/D.natAbs:=⟨_,rfl⟩
 obtain⟨r,hr⟩:∃r,r=X.natAbs%D.natAbs:=⟨_,rfl⟩
 rw[←hq,←hr]
 obtain⟨D1,hD1⟩:∃D1,D1=if sg=true then D else bZ d n:=⟨_,rfl⟩
 refine(Ret.bnd (Q:=fun y=>y=Sum.inl (((n:Int),h,l,D1,sg,()),())) ?_ ?_).eq
 ·cases sg with
  |true=>
   rw[aI,lS _ _ (by omega) (by omega),aa,show(8*(n:Int)-1).toNat=8*n-1 by omega,Dd hn,hD1,if_pos rfl,hDe]
   exact Ret.some rfl
  |false=>
   rw[aj,hD1,if_neg (by decide)]
   exact Ret.some rfl
 rintro _ rfl
 rw[ag]
 dsimp only
 have hbel:br sg (some (ltI h 0)) (some false)=some (decide (X<0)):=by
  cases sg with
  |true=>rw[aI];unfold ltI;simp only[hlt rfl]
  |false=>rw[aj,decide_eq_false (show ¬X<0 by have:=hxb.2.2 rfl;omega)]
 rw[hbel,aa]
 refine Ret.bnd (Q:=fun y=>∃h' l',I64 h'∧I64 l'∧uns h'*18446744073709551616+uns l'=X.natAbs∧y=Sum.inl (((n:Int),h',l',D1,sg,decide (X<0),false,()),())) ?_ ?_
 ·by_cases hx:X<0
  ·rw[decide_eq_true hx,aI]
   obtain⟨h',l',e2,hI',lI',hO⟩:=xn (h:=h) (l:=l)
   rw[e2,aa]
   refine Ret.some ⟨h',l',hI',lI',?_,rfl⟩
   rw[hX,if_pos hx]at hO
   omega
  ·rw[decide_eq_false hx,aj]
   refine Ret.some ⟨h,l,hI,lI,?_,rfl⟩
   rw[if_neg hx]at hX
   omega
 rintro _ ⟨h',l',hI',lI',hM,rfl⟩
 rw[ag]
 dsimp only
 have htur:br sg (some (ltI D1 0)) (some false)=some (decide (D<0)):=by
  cases sg with
  |true=>rw[aI,hD1,if_pos rfl];rfl
  |false=>rw[aj,decide_eq_false (show ¬D<0 by have:=hDb.2.2.2 rfl;omega)]
 rw[htur,aa]
 refine Ret.bnd (Q:=fun y=>∃d',uns d'=D.natAbs∧y=Sum.inl (((n:Int),h',l',d',sg,decide (X<0),decide (D<0),()),())) ?_ ?_
 ·have hb63:sg=true→ -9223372036854775808≤D∧D<9223372036854775808:=fun g=>by
   have h5:(2:Nat)^(8*n-1)≤2^63:=Nat.pow_le_pow_right (by decide) (by omega)
   have h6:(2:Int)^(8*n-1)≤9223372036854775808:=by
    have:=jO (8*n-1)
    rw[←this];exact Int.ofNat_le.2 h5
   have:=hDb.1
   have:=hDb.2.2.1 g
   omega
  by_cases hx:D<0
  ·have hs:sg=true:=by
    cases sg with
    |true=>rfl
    |false=>have:=hDb.2.2.2 rfl;omega
   subst hs
   rw[decide_eq_true hx,aI,hD1,if_pos rfl]
   refine Ret.some ⟨aZ .i64 0 D,?_,rfl⟩
   have hb:=hb63 rfl
   unfold aZ
   rw[b9,show 0-D=((D.natAbs:Nat):Int)by omega,fi (by omega)]
  ·rw[decide_eq_false hx,aj]
   refine Ret.some ⟨D1,?_,rfl⟩
   cases sg with
   |true=>
    rw[hD1,if_pos rfl]
    have hb:=hb63 rfl
    obtain⟨k,hk⟩:∃k:Nat,D=k:=⟨D.natAbs,by omega⟩
    rw[hk,fi (by omega),Int.natAbs_natCast]
   |false=>
    rw[hD1,if_neg (by decide),cB hd hn,hDe]
    unfold mz
    rw[if_neg (by decide),Int.natAbs_natCast]
 rintro _ ⟨d',hd',rfl⟩
 rw[ag]
 dsimp only[p5,p6]
 rw[ss,aa,hM,hd']
 have hl64:=eH l'
 by_cases hov:D.natAbs≤uns h'
 ·have hb:uq X.natAbs D.natAbs=true:=decide_eq_true (by omega)
  unfold F5
  rw[if_pos hov,if_pos hb]
  exact Ret.some rfl
 have hb:¬uq X.natAbs D.natAbs=true:=fun g=>by
  have:=of_decide_eq_true g
  omega
 rw[if_neg hov]
 dsimp only
 have hq64:q<18446744073709551616:=by rw[hq];exact Nat.div_lt_of_lt_mul (by omega)
 rw[←hq,←hr,show aY (eqI 0 0)=false from rfl,aj]
 clear hov hXe hDe hq hr hM hd' hxb hDb hbel htur hD1
 cases sg with
 |false=>
  rw[show aY false=true from rfl,aI,bP _ n hn,bP _ n hn,aa,aa,aa]
  dsimp only
  rw[pv hn,pv hn,D5 hn hq64]
  unfold F5
  rw[if_neg hb,if_pos rfl]
  exact Ret.some rfl
 |true=>
  rw[show aY true=false from rfl,aj]
  rw[fe (a:=8) (by omega) (by omega),cE (by omega) (by omega),af (fU (by omega)),t5,t5,aa,aa,BS hn,b9,fi hq64]
  have hnB:∀a b:Bool,aY (eqB a b)=(a != b):=fun a b=>by cases a<;>cases b<;>rfl
  rw[hnB,show(decide (X<0) != decide (D<0))=At X D from rfl]
  dsimp only
  unfold F5
  rw[if_neg hb,if_neg (show ¬true=false by decide)]
  obtain⟨t,ht⟩:∃t:Bool,t=At X D:=⟨_,rfl⟩
  rw[←ht]
  by_cases hf:ur t n q=true
  ·rw[if_pos hf]
   refine Ret.bnd (Q:=fun y=>y=Sum.inr ((0,0,false,()),())) ?_ ?_
   ·cases t with
    |true=>
     have hf':2^(8*n-1)<q:=of_decide_eq_true hf
     rw[aI,decide_eq_true hf',aI]
     exact Ret.some rfl
    |false=>
     have hf':2^(8*n-1)≤q:=of_decide_eq_true hf
     rw[aj,decide_eq_false (by omega),show aY false=true from rfl,aI]
     exact Ret.some rfl
   ·rintro _ rfl
    rw[oW]
    exact Ret.some rfl
  ·rw[if_neg hf]
   refine Ret.bnd (Q:=fun y=>y=Sum.inl (((n:Int),decide (X<0),IntKind.wrap .i64 (negI t q),IntKind.wrap .i64 (r:Int),()),())) ?_ ?_
   ·cases t with
    |true=>
     have hf':¬2^(8*n-1)<q:=fun g=>hf (decide_eq_true g)
     rw[aI,decide_eq_false hf',aj,yK]
     exact Ret.some rfl
    |false=>
     have hf':¬2^(8*n-1)≤q:=fun g=>hf (decide_eq_true g)
     rw[aj,decide_eq_true (by omega),show aY true=false from rfl,aj]
     exact Ret.some rfl
   rintro _ rfl
   rw[ag]
   dsimp only
   refine Ret.bnd (Q:=fun y=>y=Sum.inl (((n:Int),IntKind.wrap .i64 (negI t q),IntKind.wrap .i64 (negI (decide (X<0)) r),()),())) ?_ ?_
   ·cases decide (X<0)with
    |true=>
     rw[aI,yK]
     exact Ret.some rfl
    |false=>
     rw[aj]
     exact Ret.some rfl
   rintro _ rfl
   rw[ag]
   dsimp only
   rw[bP _ n hn,bP _ n hn,aa,aa]
   dsimp only
   rw[pv hn,pv hn]
   exact Ret.some rfl
theorem yi {op hi lo d:Int}{n:Nat}:I64 (sI op n hi lo d).1∧I64 (sI op n hi lo d).2.1:=by
 have z:I64 0:=by unfold I64;omega
 unfold sI F5
 split
 ·exact⟨z,z⟩
 split
 ·exact⟨i7 ..,i7 ..⟩
 split
 ·exact⟨z,z⟩
 ·exact⟨i7 ..,i7 ..⟩
structure AddInv (A B c0 i out c:Nat):Prop where
 lo:out<2^i
 hc:c≤1
 e:out+2^i*c=A%2^i+B%2^i+c0
structure SubInv (A B c0 i out c:Nat):Prop where
 lo:out<2^i
 hc:c≤1
 e:out+B%2^i+c0=A%2^i+2^i*c
theorem AddInv.init {A B c0:Nat}(h:c0≤1):AddInv A B c0 0 0 c0:=⟨by decide,h,by omega⟩
theorem SubInv.init {A B c0:Nat}(h:c0≤1):SubInv A B c0 0 0 c0:=⟨by decide,h,by omega⟩
theorem oZ (A i:Nat):A/2^i%2=0∨A/2^i%2=1:=by omega
theorem AddInv.step {A B c0 i out c:Nat}(h:AddInv A B c0 i out c):
  AddInv A B c0 (i+1) (out+2^i*((A/2^i%2+B/2^i%2+c)%2)) ((A/2^i%2+B/2^i%2+c)/2):=by
 obtain⟨h1,h2,h3⟩:=h
 have hp:=Nat.two_pow_pos i
 have hx:=oZ A i
 have hy:=oZ B i
 have hc:c=0∨c=1:=by omega
 refine⟨?_,?_,?_⟩
 ·rw[Nat.pow_succ]
  rcases hx with hx|hx<;>rcases hy with hy|hy<;>rcases hc with hc|hc<;>rw[hx,hy,hc]<;>simp only[Nat.reduceAdd,Nat.reduceMod,Nat.mul_zero,Nat.mul_one]<;>omega
 ·omega
 ·rw[Nat.mod_pow_succ,Nat.mod_pow_succ,Nat.pow_succ]
  generalize A%2^i=a at*
  generalize B%2^i=b at*
  rcases hx with hx|hx<;>rcases hy with hy|hy<;>rcases hc with hc|hc<;>rw[hc]at h3<;>rw[hx,hy,hc]<;>simp only[Nat.reduceAdd,Nat.reduceMod,Nat.reduceDiv,Nat.mul_zero,Nat.mul_one]at* <;>omega
theorem SubInv.step {A B c0 i out c:Nat}(h:SubInv A B c0 i out c):
  SubInv A B c0 (i+1) (out+2^i*((A/2^i%2+2-B/2^i%2-c)%2)) (if A/2^i%2+2-B/2^i%2-c<2 then 1 else 0):=by
 obtain⟨h1,h2,h3⟩:=h
 have hp:=Nat.two_pow_pos i
 have hx:=oZ A i
 have hy:=oZ B i
 have hc:c=0∨c=1:=by omega
 refine⟨?_,?_,?_⟩
 ·rw[Nat.pow_succ]
  rcases hx with hx|hx<;>rcases hy with hy|hy<;>rcases hc with hc|hc<;>rw[hx,hy,hc]<;>simp only[Nat.reduceAdd,Nat.reduceSub,Nat.reduceMod,Nat.mul_zero,Nat.mul_one]<;>omega
 ·split<;>omega
 ·rw[Nat.mod_pow_succ,Nat.mod_pow_succ,Nat.pow_succ]
  generalize A%2^i=a at*
  generalize B%2^i=b at*
  rcases hx with hx|hx<;>rcases hy with hy|hy<;>rcases hc with hc|hc<;>rw[hc]at h3<;>rw[hx,hy,hc]<;>simp only[Nat.reduceAdd,Nat.reduceSub,Nat.reduceMod,Nat.mul_zero,Nat.mul_one,Nat.reduceLT,if_true,if_false]at* <;>omega
theorem AddInv.fin {A B c0 i out c:Nat}(h:AddInv A B c0 i out c):out=(A%2^i+B%2^i+c0)%2^i∧c=(A%2^i+B%2^i+c0)/2^i:=by
 obtain⟨h1,h2,h3⟩:=h
 rw[←h3]
 constructor
 ·rw[Nat.add_mul_mod_self_left,Nat.mod_eq_of_lt h1]
 ·rw[Nat.add_mul_div_left _ _ (Nat.two_pow_pos i),Nat.div_eq_of_lt h1,Nat.zero_add]
theorem SubInv.fin {A B c0 i out c:Nat}(h:SubInv A B c0 i out c):out%2^i=(A%2^i+2^i-B%2^i-c0)%2^i∧c=(if A%2^i<B%2^i+c0 then 1 else 0):=by
 obtain⟨h1,h2,h3⟩:=h
 have hp:=Nat.two_pow_pos i
 have hA:=Nat.mod_lt A hp
 have hB:=Nat.mod_lt B hp
 generalize A%2^i=a at*
 generalize B%2^i=b at*
 generalize 2^i=P at*
 have hc:c=0∨c=1:=by omega
 rcases hc with rfl|rfl
 ·rw[Nat.mul_zero]at h3
  constructor
  ·rw[show a+P-b-c0=out+P by omega,Nat.add_mod_right]
  ·rw[if_neg (by omega)]
 ·rw[Nat.mul_one]at h3
  constructor
  ·rw[show a+P-b-c0=out by omega]
  ·rw[if_pos (by omega)]
structure WideInv (a b k:Nat)(h l:Int):Prop where
 h0:0≤h
 l0:0≤l
 hl:l<18446744073709551616
 e:h*18446744073709551616+l=((a*(b/2^k):Nat):Int)
theorem WideInv.init {a b:Nat}(hb:b<18446744073709551616):WideInv a b 64 0 0:=⟨by omega,by omega,by omega,by rw[Nat.div_eq_of_lt hb];rfl⟩
theorem uC (b k:Nat):b/2^k=2*(b/2^(k+1))+b/2^k%2:=by
 rw[Nat.pow_succ,←Nat.div_div_eq_div_mul]
 omega
theorem GD (a b k:Nat):a*(b/2^k)=2*(a*(b/2^(k+1)))+a*(b/2^k%2):=by
 have h4:a*(b/2^k)=a*(2*(b/2^(k+1))+b/2^k%2):=congrArg _ (uC b k)
 rw[h4,Nat.mul_add,Nat.mul_left_comm]
theorem Do {a b:Nat}(k:Nat)(ha:a<18446744073709551616)(hb:b<18446744073709551616):((a*(b/2^k):Nat):Int)<340282366920938463463374607431768211456:=by
 have:a*(b/2^k)<18446744073709551616*18446744073709551616:=Nat.mul_lt_mul'' ha (Nat.lt_of_le_of_lt (Nat.div_le_self _ _) hb)
 exact Int.ofNat_lt.2 this
theorem wide0I {h l p p1:Int}(l0:0≤l)(h0:0≤h)(h2:h*18446744073709551616+l=p1)(e:p=2*p1+0)(h1:l<18446744073709551616)(hq:p<340282366920938463463374607431768211456):
  (h*2+l/9223372036854775808)%18446744073709551616*18446744073709551616+l*2%18446744073709551616=p:=by omega
theorem wide1I {h l a p p1 l' h':Int}(l0:0≤l)(h0:0≤h)(a0:0≤a)(h2:h*18446744073709551616+l=p1)(e:p=2*p1+a)(h1:l<18446744073709551616)(ha:a<18446744073709551616)(hq:p<340282366920938463463374607431768211456)
  (e1:h'=(h*2+l/9223372036854775808)%18446744073709551616) (e2:l'=l*2%18446744073709551616):
  ((l'+a)%18446744073709551616<l'→(h'+1)%18446744073709551616*18446744073709551616+(l'+a)%18446744073709551616=p)∧(¬(l'+a)%18446744073709551616<l'→h'*18446744073709551616+(l'+a)%18446744073709551616=p):=by constructor<;>intro g<;>omega
theorem WideInv.step0 {a b k:Nat}{h l:Int}(ha:a<18446744073709551616)(hb:b<18446744073709551616)(H:WideInv a b (k+1) h l)(h0:b/2^k%2=0):
  WideInv a b k ((h*2+l/9223372036854775808)%18446744073709551616) (l*2%18446744073709551616):=by
 obtain⟨h1,h3,h4,h2⟩:=H
 have hq:=Do k ha hb
 have e:=GD a b k
 rw[h0,Nat.mul_zero]at e
 exact⟨by omega,by omega,by omega,wide0I h3 h1 h2 (by omega) h4 hq⟩
theorem WideInv.step1 {a b k:Nat}{h l h' l':Int}(ha:a<18446744073709551616)(hb:b<18446744073709551616)(H:WideInv a b (k+1) h l)(h0:b/2^k%2=1)
  (e1:h'=(h*2+l/9223372036854775808)%18446744073709551616) (e2:l'=l*2%18446744073709551616):
  ((l'+a)%18446744073709551616<l'→WideInv a b k ((h'+1)%18446744073709551616) ((l'+a)%18446744073709551616))∧(¬(l'+a)%18446744073709551616<l'→WideInv a b k h' ((l'+a)%18446744073709551616)):=by
 obtain⟨h1,h3,h4,h2⟩:=H
 have hq:=Do k ha hb
 have e:=GD a b k
 rw[h0,Nat.mul_one]at e
 have:=wide1I (h:=h) (l:=l) (a:=a) h3 h1 (by omega) h2 (by omega) h4 (by omega) hq e1 e2
 exact⟨fun g=>⟨by omega,by omega,by omega,this.1 g⟩,fun g=>⟨by omega,by omega,by omega,this.2 g⟩⟩
theorem WideInv.fin {a b:Nat}{h l:Int}(H:WideInv a b 0 h l):h=((a*b/18446744073709551616:Nat):Int)∧l=((a*b%18446744073709551616:Nat):Int):=by
 obtain⟨h1,h3,h4,h2⟩:=H
 rw[Nat.pow_zero,Nat.div_one]at h2
 rw[Int.natCast_ediv,Int.natCast_emod]
 obtain⟨p,hp⟩:∃p,p=a*b:=⟨_,rfl⟩
 rw[←hp]at h2⊢
 omega
structure QuoInv (hi lo d k q r:Nat):Prop where
 lt:r<d
 e:hi*2^(64-k)+lo/2^k=q*d+r
theorem QuoInv.init {hi lo d:Nat}(h:hi<d)(hl:lo<18446744073709551616):QuoInv hi lo d 64 0 hi:=⟨h,by rw[Nat.div_eq_of_lt hl];simp⟩
theorem QuoInv.step {hi lo d k q r:Nat}(hk:k<64)(H:QuoInv hi lo d (k+1) q r):
  (r*2+lo/2^k%2<d→QuoInv hi lo d k (q*2) (r*2+lo/2^k%2))∧(d≤r*2+lo/2^k%2→QuoInv hi lo d k (q*2+1) (r*2+lo/2^k%2-d)):=by
 obtain⟨h1,h2⟩:=H
 have hs:=uC lo k
 have e1:hi*2^(64-k)=2*(hi*2^(64-(k+1))):=by
  rw[show 64-k=64-(k+1)+1 by omega,Nat.pow_succ]
  generalize 2^(64-(k+1))=P
  rw[←Nat.mul_assoc,Nat.mul_comm]
 have e2:hi*2^(64-k)+lo/2^k=q*2*d+(r*2+lo/2^k%2):=by
  rw[Nat.mul_right_comm,e1]
  generalize hi*2^(64-(k+1))=p at*
  generalize q*d=s at*
  omega
 refine⟨fun h=>⟨h,e2⟩,fun h=>⟨by omega,?_⟩⟩
 rw[e2,Nat.add_mul,Nat.one_mul]
 generalize q*2*d=s at*
 omega
theorem QuoInv.fin {hi lo d q r:Nat}(H:QuoInv hi lo d 0 q r):q=(hi*18446744073709551616+lo)/d∧r=(hi*18446744073709551616+lo)%d:=by
 obtain⟨h1,h2⟩:=H
 have e:hi*18446744073709551616+lo=r+d*q:=by
  rw[Nat.mul_comm d q,Nat.add_comm r,←h2]
  simp
 rw[e]
 constructor
 ·rw[Nat.add_mul_div_left _ _ (by omega),Nat.div_eq_of_lt h1,Nat.zero_add]
 ·rw[Nat.add_mul_mod_self_left,Nat.mod_eq_of_lt h1]
theorem AM (v:Int)(k:Nat)(hk:k≤63):aN ((v,((k:Int),())),())=some (((uns v/2^k%2:Nat):Int),()):=by
 rw[lF _ _ (by omega) (by omega),Int.toNat_natCast,←bn]
 simp
theorem Dt (v:Int)(k:Nat):eqI ((uns v/2^k%2:Nat):Int) 1=kP v k:=by
 rw[iv,Nat.testBit_eq_decide_div_mod_eq]
 unfold eqI
 rw[Bool.eq_iff_iff,decide_eq_true_eq,decide_eq_true_eq]
 omega
theorem j7 (b:Bool)(k:Int):bU ((b,(k,())),())=some (if b=true then k else 0,()):=by
 unfold bU
 cases b<;>rfl
theorem uR (b:Bool):ef ((b,()),())=some (if b=true then 1 else 0,()):=by
 unfold ef
 cases b<;>rfl
def vm (u:Nat):Nat→Nat
 |0=>0
 |k+1=>vm u k+u/2^k%2
theorem EP (u k:Nat):vm u k≤k:=by
 induction k with
 |zero=>exact Nat.le_refl 0
 |succ k ih=>unfold vm;omega
theorem Fm (u:Nat)(h:u<256):parL.getD u false=((u%2+u/2%2+u/4%2+u/8%2+u/16%2+u/32%2+u/64%2+u/128%2)%2==0):=by
 unfold parL
 rw[List.getD_eq_getElem?_getD,List.getElem?_map,List.getElem?_range h]
 rfl
theorem ls (u k:Nat)(hk:k<8):u%256/2^k%2=u/2^k%2:=by
 have h:256=2^k*2^(8-k):=by rw[←Nat.pow_add,show k+(8-k)=8 by omega]
 have h2:2^(8-k)=2*2^(7-k):=by rw[show 8-k=7-k+1 by omega,Nat.pow_succ,Nat.mul_comm]
 rw[h,Nat.mod_mul_right_div_self,h2,Nat.mod_mul_right_mod]
theorem Cw (v:Int):eqI (fX ((vm (uns v) 8:Nat):Int) 2) 0=Fl v:=by
 unfold Fl
 rw[Fm _ (Nat.mod_lt _ (by decide)),ej (by omega)]
 generalize uns v=u
 have b0:=ls u 0 (by decide)
 have b1:=ls u 1 (by decide)
 have b2:=ls u 2 (by decide)
 have b3:=ls u 3 (by decide)
 have b4:=ls u 4 (by decide)
 have b5:=ls u 5 (by decide)
 have b6:=ls u 6 (by decide)
 have b7:=ls u 7 (by decide)
 rw[show(2:Nat)^0=1 from rfl,Nat.div_one,Nat.div_one]at b0
 rw[show(2:Nat)^1=2 from rfl]at b1
 rw[show(2:Nat)^2=4 from rfl]at b2
 rw[show(2:Nat)^3=8 from rfl]at b3
 rw[show(2:Nat)^4=16 from rfl]at b4
 rw[show(2:Nat)^5=32 from rfl]at b5
 rw[show(2:Nat)^6=64 from rfl]at b6
 rw[show(2:Nat)^7=128 from rfl]at b7
 rw[b0,b1,b2,b3,b4,b5,b6,b7]
 have e:vm u 8=u%2+u/2%2+u/4%2+u/8%2+u/16%2+u/32%2+u/64%2+u/128%2:=by
  show 0+u/2^0%2+u/2^1%2+u/2^2%2+u/2^3%2+u/2^4%2+u/2^5%2+u/2^6%2+u/2^7%2=_
  rw[Nat.zero_add,show(2:Nat)^0=1 from rfl,Nat.div_one]
 rw[e]
 generalize u%2+u/2%2+u/4%2+u/8%2+u/16%2+u/32%2+u/64%2+u/128%2=t
 unfold eqI
 rw[Bool.eq_iff_iff,decide_eq_true_eq,beq_iff_eq]
 omega
theorem ny {v:Int}{n:Nat}(hn:co (n:Int)=true)(hv:I64 v):cT (((n:Int),(v,())),())=some (vY n v,()):=by
 obtain⟨h1,h8⟩:=dR hn
 unfold cT
 dsimp only
 refine(Ret.iter (fun x=>∃k:Nat,k≤8∧x=(((n:Int),(v,(((vm (uns v) k:Nat):Int),((k:Int),())))),())) (fun x=>8-x.1.2.2.2.1.toNat) ?_ F _ ⟨0,by omega,rfl⟩ (by unfold F;dsimp only;omega)).eq
 rintro _ rec ⟨k,hk,rfl⟩ hrec
 dsimp only at hrec⊢
 by_cases h:k<8
 ·rw[af (ij (by omega)),AM _ _ (by omega),aa]
  dsimp only
  have:=EP (uns v) k
  rw[bg (by omega) (by omega),bg (a:=(k:Int)) (by omega) (by omega)]
  exact hrec _ ⟨k+1,by omega,by
   rw[show vm (uns v) (k+1)=vm (uns v) k+uns v/2^k%2 from rfl,Int.natCast_add]
   rfl⟩ (by dsimp only;omega)
 ·obtain rfl:k=8:=by omega
  rw[an (gH (by omega)),fe (a:=8) (by omega) (by omega),cE (by omega) (by omega),show 8*(n:Int)-1=((8*n-1:Nat):Int)by omega,AM _ _ (by omega),aa]
  dsimp only
  rw[Dt,j7,aa,bu hv n hn,aa]
  dsimp only
  rw[j7,aa]
  dsimp only
  rw[Cw,j7,aa]
  refine Ret.some ?_
  unfold vY
  simp only[oL]
theorem bitOr {out i b:Nat}(h:out<2^i)(hb:b≤1)(hi:i≤63):ior .u64 (out:Int) (dF .u64 (b:Int) (i:Int))=((out+2^i*b:Nat):Int):=by
 have hp:2^(i+1)≤2^64:=Nat.pow_le_pow_right (by decide) (by omega)
 have hl:b*2^i<2^64:=by
  have:b*2^i≤1*2^i:=Nat.mul_le_mul_right _ hb
  rw[Nat.pow_succ]at hp
  have:=Nat.two_pow_pos i
  omega
 have hs:out+2^i*b<2^64:=by
  have:2^i*b≤2^i*1:=Nat.mul_le_mul_left _ hb
  rw[Nat.pow_succ]at hp
  omega
 rw[Gy (by omega),Nat.mod_eq_of_lt hl]
 unfold ior
 rw[fj]
 have e1:(BitVec.ofInt IntKind.u64.bits (out:Int)|||BitVec.ofInt IntKind.u64.bits ((b*2^i:Nat):Int)).toNat=out|||b*2^i:=by
  rw[BitVec.toNat_or]
  show(BitVec.ofInt 64 (out:Int)).toNat|||(BitVec.ofInt 64 ((b*2^i:Nat):Int)).toNat=_
  have hh:∀k:Nat,k<2^64→(BitVec.ofInt 64 (k:Int)).toNat=k:=fun k hk=>by
   rw[BitVec.toNat_ofInt]
   have:((k:Int)%((2^64:Nat):Int))=((k%2^64:Nat):Int):=(Int.natCast_emod ..).symm
   rw[this,Int.toNat_natCast,Nat.mod_eq_of_lt hk]
  rw[hh _ (by omega),hh _ hl]
 rw[e1,Nat.or_comm,Nat.mul_comm b,←Nat.two_pow_add_eq_or_of_lt h,Nat.add_comm]
 have:((out+2^i*b:Nat):Int)<((2^64:Nat):Int):=Int.ofNat_lt.2 hs
 exact Int.emod_eq_of_lt (by omega) this
theorem tD {i n:Nat}(h:i≤8*n)(v:Int):ch v n%2^i=uns v%2^i:=by
 unfold ch
 exact Nat.mod_mod_of_dvd _ (Nat.pow_dvd_pow 2 h)
theorem kC {a b:Int}{n c:Nat}(less:Bool)(hn:co (n:Int)=true)(hc:c≤1):
  bW (((n:Int),(a,(b,((c:Int),(less,()))))),())=some (((if less=true then sm n a b c else t4 n a b c).1,((if less=true then sm n a b c else t4 n a b c).2,())),()):=by
 obtain⟨h1,h8⟩:=dR hn
 unfold bW
 dsimp only
 refine(Ret.iter (fun x=>∃i out c' into:Nat,i≤8*n∧(if less=true then SubInv (uns a) (uns b) c i out c' else AddInv (uns a) (uns b) c i out c')∧
   (∀j,i=j+1→∃out',if less=true then SubInv (uns a) (uns b) c j out' into else AddInv (uns a) (uns b) c j out' into)∧
   x=(((n:Int),(a,(b,(less,((out:Int),((c':Int),((into:Int),((i:Int),())))))))),())) (fun x=>8*n-(p7 x.1).toNat) ?_ F _ ⟨0,0,c,0,by omega,by cases less;exact AddInv.init hc;exact SubInv.init hc,fun j hj=>by omega,rfl⟩ (by unfold F;dsimp only[p7];omega)).eq
 rintro _ rec ⟨i,out,c',into,hi,hv,hin,rfl⟩ hrec
 dsimp only[p5,p6,p7,p8,d7]at hrec⊢
 rw[fe (a:=8) (by omega) (by omega)]
 by_cases h:i<8*n
 ·rw[af (ij (by omega)),AM _ _ (by omega),AM _ _ (by omega),aa,aa]
  dsimp only
  have hx:=oZ (uns a) i
  have hy:=oZ (uns b) i
  have hwi:ah .u64 (i:Int)=(i:Int):=cH (by omega) (by omega)
  have next:∀(d k:Nat),d≤1→k≤1→(if less=true then SubInv (uns a) (uns b) c (i+1) (out+2^i*d) k else AddInv (uns a) (uns b) c (i+1) (out+2^i*d) k)→
    Ret (br (leI 0 (ah .u64 (i:Int))) (rec (((n:Int),(a,(b,(less,((ior .u64 (out:Int) (dF .u64 (ah .u64 (d:Int)) (ah .u64 (i:Int)))),((k:Int),((c':Int),((aE .i64 (i:Int) 1),())))))))),())) none) (fun z=>z=(((if less=true then sm n a b c else t4 n a b c).1,((if less=true then sm n a b c else t4 n a b c).2,())),())):=fun d k hd hk hinv=>by
   have hwd:ah .u64 (d:Int)=(d:Int):=cH (by omega) (by omega)
   have hlo:out<2^i:=by cases less;exact hv.lo;exact hv.lo
   rw[hwi,hwd,af (fU (by omega)),bitOr hlo hd (by omega),bg (by omega) (by omega)]
   exact hrec _ ⟨i+1,_,k,c',by omega,hinv,fun j hj=>by
    obtain rfl:j=i:=by omega
    exact⟨out,hv⟩,rfl⟩ (by dsimp only;omega)
  cases less with
  |true=>
   rw[aI,uR,aa,aa,ag]
   have hv:SubInv (uns a) (uns b) c i out c':=hv
   have hc':=hv.hc
   have st:=hv.step
   obtain⟨x,hx'⟩:∃x,x=uns a/2^i%2:=⟨_,rfl⟩
   obtain⟨y,hy'⟩:∃y,y=uns b/2^i%2:=⟨_,rfl⟩
   rw[←hx']at hx st⊢
   rw[←hy']at hy st⊢
   have e1:aE .i64 (aZ .i64 (aZ .i64 (x:Int) (y:Int)) (c':Int)) 2=((x+2-y-c':Nat):Int):=by
    rw[cE (a:=(x:Int)) (b:=(y:Int)) (by omega) (by omega),cE (by omega) (by omega),bg (by omega) (by omega)];omega
   rw[e1,ej (by omega)]
   have e2:((x+2-y-c':Nat):Int)%2=(((x+2-y-c')%2:Nat):Int):=by omega
   have e3:(if ltI ((x+2-y-c':Nat):Int) 2=true then(1:Int)else 0)=((if x+2-y-c'<2 then 1 else 0:Nat):Int):=by
    by_cases g:x+2-y-c'<2
    ·rw[ij (by omega),if_pos rfl,if_pos g];rfl
    ·rw[gH (by omega),if_neg (by decide),if_neg g];rfl
   dsimp only
   rw[e2,e3]
   exact next _ _ (by omega) (by split<;>omega) st
  |false=>
   rw[aj,aa,ag]
   have hv:AddInv (uns a) (uns b) c i out c':=hv
   have hc':=hv.hc
   have st:=hv.step
   obtain⟨x,hx'⟩:∃x,x=uns a/2^i%2:=⟨_,rfl⟩
   obtain⟨y,hy'⟩:∃y,y=uns b/2^i%2:=⟨_,rfl⟩
   rw[←hx']at hx st⊢
   rw[←hy']at hy st⊢
   have e1:aE .i64 (aE .i64 (x:Int) (y:Int)) (c':Int)=((x+y+c':Nat):Int):=by
    rw[bg (a:=(x:Int)) (b:=(y:Int)) (by omega) (by omega),bg (by omega) (by omega)];omega
   rw[e1,ej (by omega),gQ (by omega) (by decide) (by omega)]
   have e2:((x+y+c':Nat):Int)%2=(((x+y+c')%2:Nat):Int):=by omega
   have e3:((x+y+c':Nat):Int)/2=(((x+y+c')/2:Nat):Int):=by omega
   dsimp only
   rw[e2,e3]
   exact next _ _ (by omega) (by omega) st
 ·obtain rfl:i=8*n:=by omega
  obtain⟨out',hin⟩:=hin (8*n-1) (by omega)
  rw[an (gH (by omega))]
  have hV:ah .i64 (out:Int)=(if less=true then FN n a b c else sumV n a b c):=by
   cases less with
   |true=>
    have hv:SubInv (uns a) (uns b) c (8*n) out c':=hv
    rw[if_pos rfl]
    unfold FN mA ah
    have:=hv.fin.1
    unfold ch
    rw[←this,Nat.mod_eq_of_lt hv.lo]
   |false=>
    have hv:AddInv (uns a) (uns b) c (8*n) out c':=hv
    rw[if_neg (by decide)]
    unfold sumV mA ah
    have:=hv.fin.1
    unfold ch
    rw[←this]
  have hC:eqI (c':Int) 1=(if less=true then subC n a b c else sumC n a b c):=by
   cases less with
   |true=>
    have hv:SubInv (uns a) (uns b) c (8*n) out c':=hv
    rw[if_pos rfl]
    unfold subC ch eqI
    have:=hv.fin.2
    rw[Bool.eq_iff_iff,decide_eq_true_eq,decide_eq_true_eq]
    by_cases g:uns a%2^(8*n)<uns b%2^(8*n)+c
    ·rw[if_pos g]at this;omega
    ·rw[if_neg g]at this;omega
   |false=>
    have hv:AddInv (uns a) (uns b) c (8*n) out c':=hv
    rw[if_neg (by decide)]
    unfold sumC ch eqI
    rw[←hv.fin.2,Bool.eq_iff_iff,decide_eq_true_eq,decide_eq_true_eq]
    omega
  have hT:eqI (into:Int) 1=(if less=true then C9 n a b c else sumI n a b c)∧into≤1:=by
   cases less with
   |true=>
    have hin:SubInv (uns a) (uns b) c (8*n-1) out' into:=hin
    refine⟨?_,hin.hc⟩
    rw[if_pos rfl]
    unfold C9 eqI
    rw[tD (by omega),tD (by omega)]
    have:=hin.fin.2
    rw[Bool.eq_iff_iff,decide_eq_true_eq,decide_eq_true_eq]
    by_cases g:uns a%2^(8*n-1)<uns b%2^(8*n-1)+c
    ·rw[if_pos g]at this;omega
    ·rw[if_neg g]at this;omega
   |false=>
    have hin:AddInv (uns a) (uns b) c (8*n-1) out' into:=hin
    refine⟨?_,hin.hc⟩
    rw[if_neg (by decide)]
    unfold sumI eqI
    rw[tD (by omega),tD (by omega),←hin.fin.2,Bool.eq_iff_iff,decide_eq_true_eq,decide_eq_true_eq]
    omega
  have hc':c'≤1:=by cases less;exact hv.hc;exact hv.hc
  have hne:aY (eqI (c':Int) (into:Int))=(eqI (c':Int) 1 != eqI (into:Int) 1):=by
   have:=hT.2
   rw[neI]
   have a1:c'=0∨c'=1:=by omega
   have a2:into=0∨into=1:=by omega
   rcases a1 with rfl|rfl<;>rcases a2 with rfl|rfl<;>rfl
  rw[hV,ny hn (by split<;>exact j5 _ _),aa,j7,aa,hne,hC,hT.1,j7,aa]
  dsimp only
  refine Ret.some ?_
  cases less with
  |true=>rfl
  |false=>rfl
theorem tQ {a b:Int}{n c:Nat}(hn:co (n:Int)=true)(ha:I64 a)(hb:I64 b):t4 n (bZ a n) (bZ b n) c=t4 n a b c:=by
 unfold t4 sumV sumC sumI
 rw[mj ha hn,mj hb hn]
theorem pD {a b:Int}{n c:Nat}(hn:co (n:Int)=true)(ha:I64 a)(hb:I64 b):sm n (bZ a n) (bZ b n) c=sm n a b c:=by
 unfold sm FN subC C9
 rw[mj ha hn,mj hb hn]
theorem uY {v w:Int}{n:Nat}(hn:co (n:Int)=true)(hv:I64 v)(hw:I64 w)(h:ch v n=ch w n):bZ v n=bZ w n:=by rw[iB hv hn,iB hw hn,h]
theorem so {v w:Int}{n:Nat}(hn:co (n:Int)=true)(hv:I64 v)(hw:I64 w)(h:ch v n=ch w n):vY n v=vY n w:=by
 obtain⟨h1,h8⟩:=dR hn
 unfold vY
 rw[jj (n:=n) (by omega),jj (v:=w) (n:=n) (by omega),h,uY hn hv hw h]
 have hp:Fl v=Fl w:=by
  unfold Fl
  have e:∀v:Int,uns v%256=ch v n%256:=fun v=>by
   unfold ch
   rw[Nat.mod_mod_of_dvd _ (show 256∣2^(8*n)from by
    have:=Nat.pow_dvd_pow 2 (show 8≤8*n by omega)
    exact this)]
  rw[e v,e w,h]
 rw[hp]
theorem FQ {v:Int}{n:Nat}(hn:co (n:Int)=true)(hv:I64 v):vY n (bZ v n)=vY n v:=so hn (eJ hv hn) hv (mj hv hn)
theorem mu (op a b:Int):I64 (lh op a b):=by
 unfold lh
 split
 ·exact kj ..
 split
 ·exact ne ..
 ·exact au _
theorem ze {op a b:Int}{n:Nat}(hn:co (n:Int)=true)(ha:I64 a)(hb:I64 b):ch (lh op (bZ a n) (bZ b n)) n=ch (lh op a b) n∧ch (lh op a b) n=uns (lh op (bZ a n) (bZ b n)):=by
 have h8:=(dR hn).2
 have hlt:∀v,ch v n%2^(8*n)=ch v n:=fun v=>Nat.mod_eq_of_lt (gB v n)
 have key:ch (lh op a b) n=uns (lh op (bZ a n) (bZ b n)):=by
  unfold lh
  split
  ·rw[lW,cB ha hn,cB hb hn]
   unfold ch
   rw[lW,Nat.or_mod_two_pow]
  split
  ·rw[pF,cB ha hn,cB hb hn]
   unfold ch
   rw[pF,Nat.xor_mod_two_pow]
  ·rw[pE,cB ha hn,cB hb hn]
   unfold ch
   rw[pE,Nat.and_mod_two_pow]
 refine⟨?_,key⟩
 show uns (lh op (bZ a n) (bZ b n))%2^(8*n)=_
 rw[←key,hlt]
theorem v8 {op a b:Int}{n:Nat}(hn:co (n:Int)=true)(ha:I64 a)(hb:I64 b):bZ (lh op a b) n=lh op (bZ a n) (bZ b n):=by
 refine je (eJ (mu ..) hn) (mu ..) ?_
 rw[cB (mu ..) hn,(ze hn ha hb).2]
theorem zL (op a b:Int):fO ((op,(a,(b,()))),())=some (lh op a b,()):=by
 unfold fO lh
 dsimp only
 by_cases h2:op=2
 ·rw[bc h2,aI,if_pos h2]
 ·rw[ar h2,aj,if_neg h2]
  by_cases h7:op=7
  ·rw[bc h7,aI,if_pos h7]
  ·rw[ar h7,aj,if_neg h7]
theorem BN {op a b f:Int}{n:Nat}(hn:co (n:Int)=true)(ha:I64 a)(hb:I64 b):gn ((op,((n:Int),(a,(b,(f,()))))),())=some (((wj op n a b f).1,((wj op n a b f).2,())),()):=by
 unfold gn wj
 dsimp only
 have hf:cM .i64 f 1=(((f%2).toNat:Nat):Int):=uF f
 have hc:(f%2).toNat≤1:=by omega
 have add0:=kC (a:=a) (b:=b) (c:=0) false hn (by decide)
 have addc:=kC (a:=a) (b:=b) (c:=(f%2).toNat) false hn hc
 have sub0:=kC (a:=a) (b:=b) (c:=0) true hn (by decide)
 have subc:=kC (a:=a) (b:=b) (c:=(f%2).toNat) true hn hc
 rw[if_neg (by decide)]at add0 addc
 rw[if_pos rfl]at sub0 subc
 have z0:((0:Nat):Int)=0:=rfl
 rw[z0]at add0 sub0
 rw[tQ hn ha hb,tQ hn ha hb,pD hn ha hb,pD hn ha hb,hf]
 by_cases h1:op=1
 ·rw[bc h1,aI,if_pos h1,add0,aa]
 rw[ar h1,aj,if_neg h1]
 by_cases h3:op=3
 ·rw[bc h3,aI,if_pos h3,addc,aa]
 rw[ar h3,aj,if_neg h3]
 by_cases h6:op=6
 ·rw[bc h6,aI,if_pos h6,sub0,aa]
 rw[ar h6,aj,if_neg h6]
 by_cases h4:op=4
 ·rw[bc h4,aI,if_pos h4,subc,aa]
 rw[ar h4,aj,if_neg h4]
 by_cases h8:op=8
 ·rw[bc h8,aI,if_pos h8,sub0,aa,bu ha n hn,aa]
 rw[ar h8,aj,if_neg h8]
 by_cases h10:op=10
 ·rw[bc h10,aI,if_pos h10,bu ha n hn,aa,ny (v:=cM .i64 a b) hn (au _),aa]
  have e:=so (v:=cM .i64 a b) (w:=cM .i64 (bZ a n) (bZ b n)) hn (au _) (au _) (ze (op:=0) hn ha hb).1.symm
  dsimp only
  rw[e]
 rw[ar h10,aj,if_neg h10,zL,aa]
 dsimp only
 rw[bu (mu ..) n hn,aa,ny hn (mu ..),aa]
 dsimp only
 rw[v8 hn ha hb,←FQ hn (mu op a b),v8 hn ha hb]
theorem not_low {a:Int}{n:Nat}(hn:co (n:Int)=true)(ha:I64 a):bZ (wb .i64 a) n=bZ (wb .i64 (bZ a n)) n:=by
 have hi:∀v,I64 (wb .i64 v):=fun v=>ne ..
 refine uY hn (hi _) (hi _) ?_
 obtain⟨K,hK⟩:∃K,K=uns (-1):=⟨_,rfl⟩
 have hu:∀v,uns (wb .i64 v)=K ^^^uns v:=fun v=>by
  rw[hK]
  exact pF (-1) v
 unfold ch
 rw[hu,hu,Nat.xor_mod_two_pow,Nat.xor_mod_two_pow,cB ha hn]
 unfold ch
 rw[Nat.mod_mod]
theorem BO {op a f:Int}{n:Nat}(hn:co (n:Int)=true)(ha:I64 a):gp ((op,((n:Int),(a,(f,())))),())=some (((xm op n a f).1,((xm op n a f).2,())),()):=by
 unfold gp xm
 dsimp only
 have neg:=kC (a:=0) (b:=a) (c:=0) true hn (by decide)
 have inc:=fun l=>kC (a:=a) (b:=1) (c:=0) l hn (by decide)
 rw[if_pos rfl,show((0:Nat):Int)=0 from rfl]at neg
 have l1:bZ 1 n=1:=(wZ hn).1
 have l0:bZ 0 n=0:=(Ce hn).1
 have i1:I64 1:=by unfold I64;omega
 have i0:I64 0:=by unfold I64;omega
 have e1:=pD (c:=0) hn i0 ha
 have e2:=pD (c:=0) hn ha i1
 have e3:=tQ (c:=0) hn ha i1
 rw[l0]at e1
 rw[l1]at e2 e3
 rw[e1,e2,e3]
 by_cases h11:op=11
 ·rw[bc h11,aI,if_pos h11,bu (v:=wb .i64 a) (ne ..) n hn,aa]
  dsimp only
  rw[not_low hn ha]
 rw[ar h11,aj,if_neg h11]
 by_cases h12:op=12
 ·rw[bc h12,aI,if_pos h12,neg,aa]
 rw[ar h12,aj,if_neg h12]
 have hI:bW (((n:Int),(a,(1,(0,(eqI op 19,()))))),())=_:=inc (eqI op 19)
 rw[hI,aa]
 by_cases h19:op=19
 ·rw[bc h19,if_pos h19,if_pos rfl]
  rfl
 ·rw[ar h19,if_neg h19,if_neg (by decide)]
  rfl
theorem gK (x:Int):I64 (ah .i64 x):=au _
theorem xorB (v w:Int)(k j:Nat):eqI (qh .i64 ((uns v/2^k%2:Nat):Int) ((uns w/2^j%2:Nat):Int)) 1=(kP v k != kP w j):=by
 rw[←Dt v k,←Dt w j]
 rcases oZ (uns v) k with h|h<;>rcases oZ (uns w) j with g|g<;>rw[h,g]<;>rfl
theorem topU {a:Int}{n:Nat}(h1:1≤n):ch a n/2^(8*n-1)=uns a/2^(8*n-1)%2:=by
 unfold ch
 have h:2^(8*n)=2^(8*n-1)*2:=by rw[←Nat.pow_succ,show(8*n-1).succ=8*n by omega]
 rw[h,Nat.mod_mul_right_div_self]
theorem lowbit {a:Int}{n:Nat}(h1:1≤n):ch a n%2=uns a/2^0%2:=by
 unfold ch
 rw[Nat.pow_zero,Nat.div_one]
 exact Nat.mod_mod_of_dvd _ (by
  have:=Nat.pow_dvd_pow 2 (show 1≤8*n by omega)
  exact this)
theorem y7 {a:Int}{n:Nat}(hn:co (n:Int)=true):uns (bZ (ah .i64 (dF .u64 (ah .u64 a) 1)) n)=(2*ch a n)%2^(8*n):=by
 obtain⟨h1,h8⟩:=dR hn
 rw[cB (gK _) hn,eG]
 unfold ch ah
 rw[b9,show(1:Int)=((1:Nat):Int)from rfl,Gy (by decide),fi (Nat.mod_lt _ (by decide))]
 have hd:2^(8*n)∣18446744073709551616:=Nat.pow_dvd_pow 2 (show 8*n≤64 by omega)
 rw[Nat.mod_mod_of_dvd _ hd,Nat.pow_one,Nat.mul_comm (uns a) 2]
 rw[Nat.mul_mod 2 (uns a%2^(8*n)),Nat.mod_mod,←Nat.mul_mod]
theorem y9 {a:Int}{n:Nat}(hn:co (n:Int)=true)(ha:I64 a):cA .u64 (ah .u64 (bZ a n)) 1=((ch a n/2:Nat):Int):=by
 rw[eG,cB ha hn,show(1:Int)=((1:Nat):Int)from rfl,Ac (by decide),Nat.pow_one]
theorem yy {a:Int}{n:Nat}(h1:1≤n):ch a n/2<2^(8*n-1):=by
 have h:=gB a n
 rw[show 8*n=8*n-1+1 by omega,Nat.pow_succ]at h
 generalize ch a n=u at*
 omega
theorem nE {op:Int}{n:Nat}(hn:co (n:Int)=true){a v:Int}(hv:I64 v)(h:uns v=vk op (8*n) (ch a n)):v=iY op n a:=by
 refine je hv (ge ..) ?_
 rw[h,jP _ hn]
theorem zK {op a f:Int}{n:Nat}(hop:20≤op∧op≤24)(hn:co (n:Int)=true)(ha:I64 a):
  fN ((op,((n:Int),(a,(f,())))),())=some (((qD op n a f).1,((qD op n a f).2,())),()):=by
 obtain⟨h1,h8⟩:=dR hn
 unfold fN
 dsimp only
 have e8:aZ .i64 (bJ .i64 8 (n:Int)) 1=((8*n-1:Nat):Int):=by
  rw[fe (a:=8) (by omega) (by omega),cE (by omega) (by omega)];omega
 have e7:aZ .i64 ((8*n-1:Nat):Int) 1=((8*n-2:Nat):Int):=by
  rw[cE (by omega) (by omega)];omega
 have w8:ah .u64 ((8*n-1:Nat):Int)=((8*n-1:Nat):Int):=cH (by omega) (by omega)
 have b0:aN ((a,(0,())),())=some (((uns a/2^0%2:Nat):Int),()):=AM a 0 (by decide)
 rw[e8,AM _ _ (by omega),aa,b0,aa]
 dsimp only
 have hwb:∀x:Nat,x%2=x→ah .u64 (x:Int)=(x:Int):=fun x hx=>cH (by omega) (by omega)
 refine(Ret.bnd (Q:=fun y=>∃c o:Int,y=Sum.inl ((op,((n:Int),(f,(iY op n a,(c,(o,())))))),())∧eqI c 1=xj op n a∧eqI o 1=xk op n a) ?_ ?_).eq
 ·by_cases h20:op=20
  ·subst h20
   rw[bc rfl,aI,bu (gK _) n hn,aa]
   dsimp only
   have hV:ior .i64 (bZ (ah .i64 (dF .u64 (ah .u64 a) 1)) n) ((uns a/2^(8*n-1)%2:Nat):Int)=iY 20 n a:=by
    refine nE hn (kj ..) ?_
    rw[lW,y7 hn,fi (by have:=oZ (uns a) (8*n-1);omega)]
    unfold vk
    rw[if_pos rfl,topU h1]
    have hev:(2*ch a n)%2^(8*n)%2=0:=by
     rw[Nat.mod_mod_of_dvd _ (by
      have:=Nat.pow_dvd_pow 2 (show 1≤8*n by omega)
      exact this)]
     omega
    have:=Gq hev (decide (uns a/2^(8*n-1)%2=1))
    rcases oZ (uns a) (8*n-1)with h|h
    ·rw[h]at this⊢;simp
    ·rw[h]at this⊢;simpa using this
   rw[hV,AM _ _ (by omega),aa]
   exact Ret.some ⟨_,_,rfl,by rw[Dt];rfl,by rw[xorB];rfl⟩
  rw[ar h20,aj]
  refine Ret.bnd (Q:=fun y=>∃c o:Int,y=Sum.inl ((op,((n:Int),(f,(iY op n a,(c,(o,())))))),())∧eqI c 1=xj op n a∧eqI o 1=xk op n a) ?_ (by rintro _ ⟨c,o,rfl,g⟩;rw[ag];exact Ret.some ⟨c,o,rfl,g⟩)
  by_cases h22:op=22
  ·subst h22
   rw[bc rfl,aI,bu (gK _) n hn,aa]
   dsimp only
   have hV:bZ (ah .i64 (dF .u64 (ah .u64 a) 1)) n=iY 22 n a:=by
    refine nE hn (eJ (gK _) hn) ?_
    rw[y7 hn]
    rfl
   rw[hV,AM _ _ (by omega),aa]
   exact Ret.some ⟨_,_,rfl,by rw[Dt];rfl,by rw[xorB];rfl⟩
  rw[ar h22,aj]
  refine Ret.bnd (Q:=fun y=>∃c o:Int,y=Sum.inl ((op,((n:Int),(f,(iY op n a,(c,(o,())))))),())∧eqI c 1=xj op n a∧eqI o 1=xk op n a) ?_ (by rintro _ ⟨c,o,rfl,g⟩;rw[ag];exact Ret.some ⟨c,o,rfl,g⟩)
  have hjoin:∀x:Nat,x≤1→ah .i64 (ior .u64 (cA .u64 (ah .u64 (bZ a n)) 1) (dF .u64 (ah .u64 (x:Int)) ((8*n-1:Nat):Int)))=IntKind.wrap .i64 ((ch a n/2+2^(8*n-1)*x:Nat):Int)∧uns (IntKind.wrap .i64 ((ch a n/2+2^(8*n-1)*x:Nat):Int))=ch a n/2+x*2^(8*n-1):=fun x hx=>by
   refine⟨?_,?_⟩
   ·rw[y9 hn ha,cH (by omega) (by omega),bitOr (yy h1) hx (by omega)]
    rfl
   ·rw[b9,Nat.mul_comm x,fi]
    have hp:2^(8*n-1+1)≤2^64:=Nat.pow_le_pow_right (by decide) (by omega)
    have:=yy (a:=a) h1
    have:2^(8*n-1)*x≤2^(8*n-1)*1:=Nat.mul_le_mul_left _ hx
    rw[Nat.pow_succ]at hp
    omega
  by_cases h21:op=21
  ·subst h21
   rw[bc rfl,aI,bu ha n hn,aa]
   dsimp only
   obtain⟨j1,j2⟩:=hjoin (uns a/2^0%2) (by omega)
   rw[w8,af (fU (by omega)),j1]
   have hV:IntKind.wrap .i64 ((ch a n/2+2^(8*n-1)*(uns a/2^0%2):Nat):Int)=iY 21 n a:=by
    refine nE hn (au _) ?_
    rw[j2,←lowbit h1]
    rfl
   rw[hV,AM _ _ (by omega),aa,e7,AM _ _ (by omega),aa]
   exact Ret.some ⟨_,_,rfl,by rw[Dt];rfl,by rw[xorB];rfl⟩
  rw[ar h21,aj]
  refine Ret.bnd (Q:=fun y=>∃c o:Int,y=Sum.inl ((op,((n:Int),(f,(iY op n a,(c,(o,())))))),())∧eqI c 1=xj op n a∧eqI o 1=xk op n a) ?_ (by rintro _ ⟨c,o,rfl,g⟩;rw[ag];exact Ret.some ⟨c,o,rfl,g⟩)
  by_cases h23:op=23
  ·subst h23
   rw[bc rfl,aI,bu ha n hn,aa]
   dsimp only
   have hV:ah .i64 (cA .u64 (ah .u64 (bZ a n)) 1)=iY 23 n a:=by
    refine nE hn (au _) ?_
    rw[y9 hn ha]
    unfold ah
    rw[b9,fi]
    ·rfl
    ·have:=eH a
     have:ch a n≤uns a:=Nat.mod_le _ _
     omega
   rw[hV]
   exact Ret.some ⟨_,_,rfl,by rw[Dt];rfl,by rw[Dt];rfl⟩
  ·have h24:op=24:=by omega
   subst h24
   rw[ar (by decide),aj,bu ha n hn,aa]
   dsimp only
   obtain⟨j1,j2⟩:=hjoin (uns a/2^(8*n-1)%2) (by omega)
   rw[w8,af (fU (by omega)),j1]
   have hV:IntKind.wrap .i64 ((ch a n/2+2^(8*n-1)*(uns a/2^(8*n-1)%2):Nat):Int)=iY 24 n a:=by
    refine nE hn (au _) ?_
    rw[j2,←topU h1]
    rfl
   rw[hV]
   exact Ret.some ⟨_,_,rfl,by rw[Dt];rfl,rfl⟩
 rintro _ ⟨c,o,rfl,hC,hO⟩
 rw[ag]
 dsimp only[p5]
 have hbr:br (aY (eqI op 20)) (some (aY (eqI op 21))) (some false)=some (decide (¬(op=20∨op=21))):=by
  by_cases a8:op=20
  ·rw[bc a8,cf,aj,decide_eq_false (by omega)]
  ·rw[ar a8,dw,aI]
   by_cases a10:op=21
   ·rw[bc a10,cf,decide_eq_false (by omega)]
   ·rw[ar a10,dw,decide_eq_true (by omega)]
 rw[hbr,aa]
 refine Ret.bnd (Q:=fun y=>y=Sum.inl ((iY op n a,(c,(o,(zT op n a f,())))),())) ?_ ?_
 ·unfold zT
  by_cases hk:op=20∨op=21
  ·rw[decide_eq_false (by omega),aj,if_pos hk]
   exact Ret.some rfl
  ·rw[decide_eq_true hk,aI,if_neg hk,ny hn (ge ..),aa]
   exact Ret.some rfl
 rintro _ rfl
 rw[ag]
 dsimp only
 rw[j7,aa,j7,aa,hC,hO]
 exact Ret.some rfl
theorem zF (op:Int)(n k:Nat)(x:Int×Int):qg op n (k+1) x=qg op n k (qD op n x.1 x.2):=rfl
theorem wX {op a k f:Int}{n:Nat}(hop:20≤op∧op≤24)(hn:co (n:Int)=true)(ha:I64 a):
  eY ((op,((n:Int),(a,(k,(f,()))))),())=some (((i6 op n a k f).1,((i6 op n a k f).2,())),()):=by
 obtain⟨h1,h8⟩:=dR hn
 unfold eY i6
 dsimp only
 have hk:=bn k
 have hku:=eH k
 have hcnt:∀m:Int,m=64∨m=32→ah .i64 (fX (ah .u64 k) m)=k%m:=fun m hm=>by
  rw[eG,ej (by omega)]
  have:((uns k:Nat):Int)%m=k%m:=by
   rw[hk,show(2:Int)^64=18446744073709551616 from rfl]
   rcases hm with rfl|rfl<;>omega
  rw[this]
  exact dB (by unfold I64;rcases hm with rfl|rfl<;>omega)
 refine(Ret.bnd (Q:=fun y=>y=Sum.inl ((op,((n:Int),(a,(f,(((xB n k:Nat):Int),()))))),())) ?_ ?_).eq
 ·unfold xB
  by_cases h:n=8
  ·rw[bc (show(n:Int)=8 by omega),aI,hcnt 64 (.inl rfl),if_pos h]
   exact Ret.some (by rw[show k%64=(((k%64).toNat:Nat):Int)by omega];rfl)
  ·rw[ar (show(n:Int)≠8 by omega),aj,hcnt 32 (.inr rfl),if_neg h]
   exact Ret.some (by rw[show k%32=(((k%32).toNat:Nat):Int)by omega];rfl)
 rintro _ rfl
 rw[ag]
 dsimp only
 rw[bu ha n hn,aa]
 have hN:xB n k<64:=by unfold xB;split<;>omega
 obtain⟨N,hNe⟩:∃N,N=xB n k:=⟨_,rfl⟩
 rw[←hNe]at hN⊢
 refine Ret.iter (fun x=>∃(i:Nat) (v g:Int),i≤N∧I64 v∧qg op n (N-i) (v,g)=qg op n N (bZ a n,f)∧x=((op,((n:Int),(g,((N:Int),(v,((i:Int),())))))),())) (fun x=>N-(p5 x.1).toNat) ?_ F _ ⟨0,_,f,by omega,eJ ha hn,rfl,rfl⟩ (by unfold F;dsimp only[p5];omega)
 rintro _ rec ⟨i,v,g,hi,hv,he,rfl⟩ hrec
 dsimp only[p5]at hrec⊢
 by_cases h:i<N
 ·rw[af (ij (by omega)),zK hop hn hv,aa]
  dsimp only
  rw[bg (by omega) (by omega)]
  exact hrec _ ⟨i+1,_,_,by omega,ge ..,by
   rw[show N-i=N-(i+1)+1 by omega,zF]at he
   exact he,rfl⟩ (by dsimp only;omega)
 ·obtain rfl:i=N:=by omega
  rw[an (gH (by omega))]
  rw[Nat.sub_self]at he
  refine Ret.some ?_
  rw[←he]
  rfl
theorem Er (x:Int):dF .u64 x 1=x*2%18446744073709551616:=y8 x 1 (by decide)
theorem BL (x:Int):cA .u64 x 63=x/9223372036854775808:=qW x 63 (by decide)
theorem zI {a b:Nat}(ha:a<18446744073709551616)(hb:b<18446744073709551616):
  dH (((a:Int),((b:Int),())),())=some ((((a*b/18446744073709551616:Nat):Int),(((a*b%18446744073709551616:Nat):Int),())),()):=by
 unfold dH
 dsimp only
 refine(Ret.iter (fun x=>∃(k:Nat) (h l:Int),k≤64∧WideInv a b k h l∧x=(((a:Int),((b:Int),(h,(l,(((k:Int)-1),()))))),())) (fun x=>(x.1.2.2.2.2.1+1).toNat) ?_ F _ ⟨64,0,0,by omega,WideInv.init hb,rfl⟩ (by unfold F;dsimp only;omega)).eq
 rintro _ rec ⟨k,h,l,hk,hw,rfl⟩ hrec
 dsimp only at hrec⊢
 cases k with
 |zero=>
  rw[an (jR (by omega))]
  obtain⟨e1,e2⟩:=hw.fin
  exact Ret.some (by rw[e1,e2])
 |succ k=>
  have ek:((k+1:Nat):Int)-1=(k:Int):=by omega
  rw[ek]at hrec⊢
  have hwk:ah .u64 (k:Int)=(k:Int):=cH (by omega) (by omega)
  rw[af (fU (by omega)),hwk,af (fU (by omega)),Ac (by omega),ej (Int.natCast_nonneg _),Er,Er,BL]
  have hbit:((b/2^k:Nat):Int)%2=((b/2^k%2:Nat):Int):=(Int.natCast_emod _ 2).symm
  rw[hbit,AE,AE,AE]
  have hx:(h*2%18446744073709551616+l/9223372036854775808)%18446744073709551616=(h*2+l/9223372036854775808)%18446744073709551616:=by omega
  have hx1:((h*2%18446744073709551616+l/9223372036854775808)%18446744073709551616+1)%18446744073709551616=((h*2+l/9223372036854775808)%18446744073709551616+1)%18446744073709551616:=by omega
  refine Ret.bnd (Q:=fun y=>∃h' l',WideInv a b k h' l'∧y=Sum.inl (((a:Int),((b:Int),(h',(l',((k:Int),()))))),())) ?_ ?_
  ·rcases oZ b k with h0|h0
   ·rw[h0,an (by rfl)]
    exact Ret.some ⟨_,_,hw.step0 ha hb h0,by rw[hx]⟩
   ·rw[h0,af (by rfl)]
    have hst:=hw.step1 ha hb h0 (h':=(h*2+l/9223372036854775808)%18446744073709551616) (l':=l*2%18446744073709551616) rfl rfl
    refine Ret.bnd (Q:=fun y=>∃h' l',WideInv a b k h' l'∧y=Sum.inl (((a:Int),((b:Int),(h',(l',((k:Int),()))))),())) ?_ (by rintro _ ⟨h',l',g,rfl⟩;rw[ag];exact Ret.some ⟨h',l',g,rfl⟩)
    by_cases hc:(l*2%18446744073709551616+(a:Int))%18446744073709551616<l*2%18446744073709551616
    ·rw[af (ij hc)]
     exact Ret.some ⟨_,_,hst.1 hc,by rw[hx1]⟩
    ·rw[an (gH hc)]
     exact Ret.some ⟨_,_,hst.2 hc,by rw[hx]⟩
  rintro _ ⟨h',l',hw',rfl⟩
  rw[ag]
  dsimp only
  rw[cE (by omega) (by omega)]
  exact hrec _ ⟨k,h',l',by omega,hw',rfl⟩ (by dsimp only;omega)
theorem QuoInv.q_lt {hi lo d k q r:Nat}(H:QuoInv hi lo d k q r)(h:hi<d)(hl:lo<18446744073709551616)(hk:k≤64):q<2^(64-k):=by
 have hP:2^k*2^(64-k)=18446744073709551616:=by rw[←Nat.pow_add,show k+(64-k)=64 by omega]
 have h1:lo/2^k<2^(64-k):=Nat.div_lt_of_lt_mul (by rw[hP];exact hl)
 have h2:(hi+1)*2^(64-k)≤d*2^(64-k):=Nat.mul_le_mul_right _ h
 rw[Nat.add_mul,Nat.one_mul]at h2
 have h3:=H.e
 refine Nat.lt_of_mul_lt_mul_right (a:=d) ?_
 rw[Nat.mul_comm (2^(64-k)) d]
 generalize hi*2^(64-k)=A at*
 generalize d*2^(64-k)=B at*
 generalize q*d=C at*
 omega
theorem CE {r b d r2:Int}(r0:0≤r)(hr:r<d)(hd:d<18446744073709551616)(b0:b=0∨b=1)(e:r2=(r*2%18446744073709551616+b)%18446744073709551616):
  (r/9223372036854775808=1→d≤r*2+b)∧(¬r/9223372036854775808=1→(d≤r2↔d≤r*2+b))∧(d≤r*2+b→(r2-d)%18446744073709551616=r*2+b-d)∧(r*2+b<d→r2=r*2+b):=by
 refine⟨?_,?_,?_,?_⟩<;>omega
theorem uO {hi lo d:Nat}(h:hi<d)(hd:d<18446744073709551616)(hlo:lo<18446744073709551616):
  dY (((hi:Int),((lo:Int),((d:Int),()))),())=some (((((hi*18446744073709551616+lo)/d:Nat):Int),((((hi*18446744073709551616+lo)%d:Nat):Int),())),()):=by
 unfold dY
 dsimp only
 refine(Ret.iter (fun x=>∃k q r:Nat,k≤64∧QuoInv hi lo d k q r∧x=(((lo:Int),((d:Int),((q:Int),((r:Int),(((k:Int)-1),()))))),())) (fun x=>(x.1.2.2.2.2.1+1).toNat) ?_ F _ ⟨64,0,hi,by omega,QuoInv.init h hlo,rfl⟩ (by unfold F;dsimp only;omega)).eq
 rintro _ rec ⟨k,q,r,hk,hw,rfl⟩ hrec
 dsimp only at hrec⊢
 cases k with
 |zero=>
  rw[an (jR (by omega))]
  obtain⟨e1,e2⟩:=hw.fin
  exact Ret.some (by rw[e1,e2])
 |succ k=>
  have ek:((k+1:Nat):Int)-1=(k:Int):=by omega
  rw[ek]at hrec⊢
  have hwk:ah .u64 (k:Int)=(k:Int):=cH (by omega) (by omega)
  obtain⟨st0,st1⟩:=hw.step (by omega)
  have hrd:=hw.lt
  have hbit:((lo/2^k:Nat):Int)%2=((lo/2^k%2:Nat):Int):=(Int.natCast_emod _ 2).symm
  obtain⟨b,hb⟩:∃b,b=lo/2^k%2:=⟨_,rfl⟩
  rw[←hb]at st0 st1 hbit
  have hb01:b=0∨b=1:=by rw[hb];exact oZ lo k
  rw[af (fU (by omega)),hwk,af (fU (by omega)),Ac (by omega),ej (Int.natCast_nonneg _),hbit,BL,Er,Er,AE,AE,subU]
  obtain⟨r2,hr2⟩:∃r2:Int,r2=((r:Int)*2%18446744073709551616+(b:Int))%18446744073709551616:=⟨_,rfl⟩
  rw[←hr2]
  obtain⟨a1,a2,a3,a4⟩:=CE (r:=(r:Int)) (b:=(b:Int)) (d:=(d:Int)) (by omega) (by omega) (by omega) (by omega) hr2
  have hcond:br (eqI ((r:Int)/9223372036854775808) 1) (some true) (some (leI (d:Int) r2))=some (decide (d≤r*2+b)):=by
   by_cases g:(r:Int)/9223372036854775808=1
   ·have:=a1 g
    rw[bc g,aI,decide_eq_true (by omega)]
   ·have:=a2 g
    rw[ar g,aj]
    by_cases g2:d≤r*2+b
    ·rw[decide_eq_true g2,fU (this.2 (by omega))]
    ·rw[decide_eq_false g2,jR (fun z=>g2 (by have:=this.1 z;omega))]
  rw[hcond,aa]
  have hp:2^(64-k)≤2^64:=Nat.pow_le_pow_right (by decide) (by omega)
  refine Ret.bnd (Q:=fun y=>∃q' r':Nat,QuoInv hi lo d k q' r'∧y=Sum.inl (((lo:Int),((d:Int),((q':Int),((r':Int),((k:Int),()))))),())) ?_ ?_
  ·by_cases g2:d≤r*2+b
   ·have hq:=(st1 g2).q_lt h hlo (by omega)
    rw[decide_eq_true g2,aI,a3 (by omega)]
    refine Ret.some ⟨q*2+1,r*2+b-d,st1 g2,?_⟩
    rw[show((q:Int)*2%18446744073709551616+1)%18446744073709551616=((q*2+1:Nat):Int)by omega,show(r:Int)*2+(b:Int)-(d:Int)=((r*2+b-d:Nat):Int)by omega]
   ·have hq:=(st0 (by omega)).q_lt h hlo (by omega)
    rw[decide_eq_false g2,aj,a4 (by omega)]
    refine Ret.some ⟨q*2,r*2+b,st0 (by omega),?_⟩
    rw[show((q:Int)*2%18446744073709551616)=((q*2:Nat):Int)by omega,show(r:Int)*2+(b:Int)=((r*2+b:Nat):Int)by omega]
  rintro _ ⟨q',r',hw',rfl⟩
  rw[ag]
  dsimp only
  rw[cE (by omega) (by omega)]
  exact hrec _ ⟨k,q',r',by omega,hw',rfl⟩ (by dsimp only;omega)
theorem inotU {h:Int}(h0:0≤h)(h1:h<18446744073709551616):wb .u64 h=18446744073709551615-h:=by
 unfold wb qh
 rw[fj]
 have e:(BitVec.ofInt IntKind.u64.bits (if IntKind.u64.signed=true then -1 else IntKind.u64.max)^^^BitVec.ofInt IntKind.u64.bits h).toNat=(18446744073709551615-h).toNat:=by
  have e1:(BitVec.ofInt IntKind.u64.bits (if IntKind.u64.signed=true then -1 else IntKind.u64.max))=BitVec.allOnes 64:=by rfl
  have e2:(BitVec.ofInt 64 h).toNat=h.toNat:=by rw[BitVec.toNat_ofInt];omega
  rw[e1]
  show(BitVec.allOnes 64 ^^^BitVec.ofInt 64 h).toNat=_
  rw[BitVec.allOnes_xor,BitVec.toNat_not,e2]
  omega
 rw[e];omega
theorem ol {v:Int}(hv:I64 v):dg ((v,()),())=some (((v.natAbs:Nat):Int),())∧v.natAbs<18446744073709551616:=by
 unfold I64 at hv
 refine⟨?_,by omega⟩
 unfold dg
 dsimp only
 have hu:=bn v
 rw[show(2:Int)^64=18446744073709551616 from rfl]at hu
 rw[eG,hu]
 by_cases h:v<0
 ·rw[ij h,aI,subU]
  congr 2;omega
 ·rw[gH h,aj]
  congr 2;omega
theorem neg128 {h l p:Int}(h0:0≤h)(l0:0≤l)(l1:l<18446744073709551616)(h1:h<18446744073709551616)(e:h*18446744073709551616+l=p):
  ((-l)%18446744073709551616=0→(18446744073709551615-h+1)%18446744073709551616*18446744073709551616+(-l)%18446744073709551616=(-p)%340282366920938463463374607431768211456)∧
  (¬(-l)%18446744073709551616=0→(18446744073709551615-h)*18446744073709551616+(-l)%18446744073709551616=(-p)%340282366920938463463374607431768211456):=by
 constructor<;>intro g<;>omega
theorem tc {X Y:Int}(sg:Bool)(hX:I64 X)(hY:I64 Y):∃h l:Int,dP ((X,(Y,(sg,()))),())=some ((h,(l,())),())∧0≤h∧h<18446744073709551616∧0≤l∧l<18446744073709551616∧
  h*18446744073709551616+l=(if sg=true then X*Y else((uns X:Nat):Int)*((uns Y:Nat):Int))%340282366920938463463374607431768211456:=by
 have hwide:∀a b:Nat,a<18446744073709551616→b<18446744073709551616→∃h l:Int,dH (((a:Int),((b:Int),())),())=some ((h,(l,())),())∧0≤h∧h<18446744073709551616∧0≤l∧l<18446744073709551616∧h*18446744073709551616+l=(a:Int)*(b:Int):=fun a b ha hb=>by
  refine⟨_,_,zI ha hb,?_⟩
  have hp:a*b<18446744073709551616*18446744073709551616:=Nat.mul_lt_mul'' ha hb
  have e:(a:Int)*(b:Int)=((a*b:Nat):Int):=by simp
  have hp':((a*b:Nat):Int)<340282366920938463463374607431768211456:=Int.ofNat_lt.2 hp
  rw[e,Int.natCast_ediv,Int.natCast_emod]
  have h0:0≤((a*b:Nat):Int):=Int.natCast_nonneg _
  generalize ((a*b:Nat):Int)=p at*
  show 0≤p/18446744073709551616∧p/18446744073709551616<18446744073709551616∧0≤p%18446744073709551616∧p%18446744073709551616<18446744073709551616∧p/18446744073709551616*18446744073709551616+p%18446744073709551616=p
  omega
 have hbig:∀h l p:Int,0≤h→h<18446744073709551616→0≤l→l<18446744073709551616→h*18446744073709551616+l=p→h*18446744073709551616+l=p%340282366920938463463374607431768211456:=fun h l p a b c d e=>by omega
 unfold dP
 dsimp only
 cases sg with
 |false=>
  obtain⟨h,l,e,a1,a2,a3,a4,a5⟩:=hwide _ _ (eH X) (eH Y)
  rw[show aY false=true from rfl,aI,eG,eG,e,aa,if_neg (by decide)]
  exact⟨h,l,rfl,a1,a2,a3,a4,hbig _ _ _ a1 a2 a3 a4 a5⟩
 |true=>
  obtain⟨s1,l1⟩:=ol hX
  obtain⟨s2,l2⟩:=ol hY
  obtain⟨h,l,e,a1,a2,a3,a4,a5⟩:=hwide _ _ l1 l2
  rw[show aY true=false from rfl,aj,s1,aa,s2,aa,if_pos rfl]
  dsimp only
  rw[e,aa]
  dsimp only
  have hne:aY (eqB (ltI X 0) (ltI Y 0))=(decide (X<0) != decide (Y<0)):=by
   unfold ltI
   cases decide (X<0)<;>cases decide (Y<0)<;>rfl
  rw[hne]
  have habs:∀Z:Int,(Z.natAbs:Int)=if Z<0 then -Z else Z:=fun Z=>by split<;>omega
  rw[habs X,habs Y]at a5
  by_cases hd:(decide (X<0) != decide (Y<0))=true
  ·rw[hd,aI,subU,inotU a1 a2,AE]
   have hp:h*18446744073709551616+l= -(X*Y):=by
    rw[a5]
    by_cases x0:X<0
    ·by_cases y0:Y<0
     ·rw[decide_eq_true x0,decide_eq_true y0]at hd;cases hd
     ·rw[if_pos x0,if_neg y0,Int.neg_mul]
    ·by_cases y0:Y<0
     ·rw[if_neg x0,if_pos y0,Int.mul_neg]
     ·rw[decide_eq_false x0,decide_eq_false y0]at hd;cases hd
   obtain⟨n1,n2⟩:=neg128 a1 a3 a4 a2 hp
   rw[Int.neg_neg]at n1 n2
   rw[Int.zero_sub]
   by_cases hz:(-l)%18446744073709551616=0
   ·rw[bc hz,aI,aa,ag,aa,ag]
    exact⟨_,_,rfl,by omega,by omega,by omega,by omega,n1 hz⟩
   ·rw[ar hz,aj,aa,ag,aa,ag]
    exact⟨_,_,rfl,by omega,by omega,by omega,by omega,n2 hz⟩
  ·rw[Bool.eq_false_iff.2 hd,aj,aa,ag]
   have hp:h*18446744073709551616+l=X*Y:=by
    rw[a5]
    by_cases x0:X<0
    ·by_cases y0:Y<0
     ·rw[if_pos x0,if_pos y0,Int.neg_mul_neg]
     ·rw[decide_eq_true x0,decide_eq_false y0]at hd;exact absurd rfl hd
    ·by_cases y0:Y<0
     ·rw[decide_eq_false x0,decide_eq_true y0]at hd;exact absurd rfl hd
     ·rw[if_neg x0,if_neg y0]
   exact⟨h,l,rfl,a1,a2,a3,a4,hbig _ _ _ a1 a2 a3 a4 hp⟩
theorem yq {sg:Bool}{n:Nat}(hn:co (n:Int)=true){a:Int}(ha:I64 a):I64 (rM sg n a):=by
 obtain⟨h1,h8⟩:=dR hn
 unfold rM
 split
 ·exact gS _ (by omega) _
 ·exact eJ ha hn
theorem D8 {sg:Bool}{n:Nat}(hn:co (n:Int)=true){a b:Int}(ha:I64 a)(hb:I64 b):
  (if sg=true then rM sg n a*rM sg n b else((uns (rM sg n a):Nat):Int)*((uns (rM sg n b):Nat):Int))=mz sg n a*mz sg n b:=by
 unfold rM mz
 cases sg with
 |true=>simp only[if_true]
 |false=>
  rw[if_neg (by decide),if_neg (by decide),if_neg (by decide),if_neg (by decide),if_neg (by decide),cB ha hn,cB hb hn]
theorem mE {op a b f:Int}{n:Nat}(hn:co (n:Int)=true)(ha:I64 a)(hb:I64 b):
  cr ((op,((n:Int),(a,(b,(f,()))))),())=some (((qu op n a b f).1,((qu op n a b f).2.1,((qu op n a b f).2.2,()))),()):=by
 obtain⟨h1,h8⟩:=dR hn
 unfold cr
 dsimp only
 obtain⟨sg,hsg⟩:∃sg:Bool,sg=decide (op≠13):=⟨_,rfl⟩
 have heq:aY (eqI op 13)=sg:=by
  rw[hsg,neI,Bool.eq_iff_iff,bne_iff_ne,decide_eq_true_eq]
 have hsx:∀v,aT ((v,((n:Int),())),())=some (sx (8*n-1) v,()):=fun v=>by
  rw[jy _ _ (by omega) (by omega),show(8*(n:Int)-1).toNat=8*n-1 by omega]
 rw[heq,bu ha n hn,bu hb n hn,aa,aa]
 refine(Ret.bnd (Q:=fun y=>y=Sum.inl (((n:Int),(f,(sg,(rM sg n a,(rM sg n b,()))))),())) ?_ ?_).eq
 ·cases sg with
  |true=>
   rw[aI,hsx,hsx,aa,aa]
   exact Ret.some rfl
  |false=>
   rw[aj]
   exact Ret.some rfl
 rintro _ rfl
 rw[ag]
 dsimp only
 obtain⟨h,l,e,a1,a2,a3,a4,a5⟩:=tc sg (yq (sg:=sg) hn ha) (yq (sg:=sg) hn hb)
 rw[D8 hn ha hb]at a5
 rw[e,aa]
 dsimp only
 have hul:∀z:Int,0≤z→z<18446744073709551616→((uns (ah .i64 z):Nat):Int)=z:=fun z z0 z1=>by
  unfold ah
  rw[b9,bn,show(2:Int)^64=18446744073709551616 from rfl];omega
 have hlow:bZ (ah .i64 l) n=vd sg n a b:=by
  refine ou hn (au _) ?_
  rw[hul l a3 a4]
  generalize mz sg n a*mz sg n b=p at*
  rcases wd hn with rfl|rfl|rfl|rfl
  ·rw[show(2:Int)^(8*1)=256 from rfl];omega
  ·rw[show(2:Int)^(8*2)=65536 from rfl];omega
  ·rw[show(2:Int)^(8*4)=4294967296 from rfl];omega
  ·rw[show(2:Int)^(8*8)=18446744073709551616 from rfl];omega
 rw[bu (gK l) n hn,aa,hlow]
 dsimp only
 refine Ret.bnd (Q:=fun y=>y=Sum.inl (((n:Int),(f,(sg,(vd sg n a b,(mV sg n a b,()))))),())) ?_ ?_
 ·by_cases h8':n=8
  ·subst h8'
   rw[gH (by omega),aj]
   have hh:ah .i64 h=mV sg 8 a b:=by
    unfold mV ku ah
    refine kK ?_
    rw[show(2:Int)^(8*8)=18446744073709551616 from rfl]
    generalize mz sg 8 a*mz sg 8 b=p at*
    omega
   rw[hh]
   exact Ret.some rfl
  ·have h3:n=1∨n=2∨n=4:=by rcases wd hn with h|h|h|h<;>omega
   rw[ij (by omega),aI,fe (a:=8) (by omega) (by omega),cH (by omega) (by omega),af (fU (by omega)),show 8*(n:Int)=((8*n:Nat):Int)by omega,qW _ _ (by omega),bu (gK _) n hn,aa]
   have hh:bZ (ah .i64 (l/2^(8*n))) n=mV sg n a b:=by
    refine ou hn (au _) ?_
    have hd0:0≤l/2^(8*n):=Int.ediv_nonneg a3 (Int.le_of_lt (Int.pow_pos (by decide)))
    have hd1:l/2^(8*n)<18446744073709551616:=Int.lt_of_le_of_lt (Int.ediv_le_self _ a3) a4
    rw[hul _ hd0 hd1]
    generalize mz sg n a*mz sg n b=p at*
    rcases h3 with rfl|rfl|rfl
    ·rw[show(2:Int)^(8*1)=256 from rfl];omega
    ·rw[show(2:Int)^(8*2)=65536 from rfl];omega
    ·rw[show(2:Int)^(8*4)=4294967296 from rfl];omega
   rw[hh]
   exact Ret.some rfl
 rintro _ rfl
 rw[ag]
 dsimp only
 refine Ret.bnd (Q:=fun y=>y=Sum.inl ((f,(vd sg n a b,(mV sg n a b,(Ck sg n a b,())))),())) ?_ ?_
 ·unfold Ck
  cases sg with
  |true=>
   rw[aI,hsx,hsx,aa,aa,neI]
   exact Ret.some rfl
  |false=>
   rw[aj,neI]
   exact Ret.some rfl
 rintro _ rfl
 rw[ag]
 dsimp only
 rw[j7,aa]
 refine Ret.some ?_
 unfold qu
 rw[←hsg]
theorem orU {a b:Nat}(ha:a<2^64)(hb:b<2^64):ior .u64 (a:Int) (b:Int)=((a|||b:Nat):Int):=by
 unfold ior
 rw[fj]
 have hh:∀k:Nat,k<2^64→(BitVec.ofInt 64 (k:Int)).toNat=k:=fun k hk=>by
  rw[BitVec.toNat_ofInt]
  have:((k:Int)%((2^64:Nat):Int))=((k%2^64:Nat):Int):=(Int.natCast_emod ..).symm
  rw[this,Int.toNat_natCast,Nat.mod_eq_of_lt hk]
 have e1:(BitVec.ofInt IntKind.u64.bits (a:Int)|||BitVec.ofInt IntKind.u64.bits (b:Int)).toNat=a|||b:=by
  rw[BitVec.toNat_or]
  show(BitVec.ofInt 64 (a:Int)).toNat|||(BitVec.ofInt 64 (b:Int)).toNat=_
  rw[hh _ ha,hh _ hb]
 rw[e1]
 have:a|||b<2^64:=Nat.or_lt_two_pow ha hb
 have h2:((a|||b:Nat):Int)<((2^64:Nat):Int):=Int.ofNat_lt.2 this
 exact Int.emod_eq_of_lt (by omega) h2
theorem joinU {n:Nat}(hn:n=1∨n=2∨n=4){hi lo:Int}(hh:I64 hi)(hl:I64 lo):ior .u64 (dF .u64 (ah .u64 (bZ hi n)) ((8*n:Nat):Int)) (ah .u64 (bZ lo n))=((mO n hi lo:Nat):Int):=by
 have hs:co (n:Int)=true:=by rcases hn with rfl|rfl|rfl<;>rfl
 have hlt:=km n hi lo
 have h32:2^(16*n)≤2^64:=Nat.pow_le_pow_right (by decide) (by omega)
 have hN:mO n hi lo<2^64:=Nat.lt_of_lt_of_le hlt h32
 have hH:ch hi n*2^(8*n)<2^64:=Nat.lt_of_le_of_lt (Nat.le_add_right _ _) hN
 have hL:ch lo n<2^64:=Nat.lt_of_le_of_lt (Nat.le_add_left _ _) hN
 rw[eG,eG,cB hh hs,cB hl hs,Gy (by omega),Nat.mod_eq_of_lt hH,orU hH hL]
 unfold mO
 rw[Nat.mul_comm,Nat.two_pow_add_eq_or_of_lt (gB lo n)]
theorem zJ {n:Nat}{hi lo:Int}(hn:co (n:Int)=true)(hh:I64 hi)(hl:I64 lo)(sg:Bool):
  ∃h l:Int,fM (((n:Int),(hi,(lo,(sg,())))),())=some ((h,(l,())),())∧0≤h∧h<18446744073709551616∧0≤l∧l<18446744073709551616∧
   h*18446744073709551616+l=(if nn sg n hi lo<0 then nn sg n hi lo+340282366920938463463374607431768211456 else nn sg n hi lo):=by
 obtain⟨h1,h8⟩:=dR hn
 unfold fM
 dsimp only
 by_cases h8':n=8
 ·subst h8'
  rw[bc (by rfl),aI,eG,eG]
  have g1:=eH hi
  have g2:=eH lo
  refine⟨_,_,rfl,by omega,by omega,by omega,by omega,?_⟩
  have hN:=AZ hi lo
  unfold nn
  rw[show(2:Nat)^(16*8-1)=170141183460469231731687303715884105728 from rfl,show(2:Int)^(16*8)=340282366920938463463374607431768211456 from rfl]
  have hlt:mO 8 hi lo<340282366920938463463374607431768211456:=km 8 hi lo
  by_cases hc:sg=true∧170141183460469231731687303715884105728≤mO 8 hi lo
  ·rw[if_pos hc];omega
  ·rw[if_neg hc];omega
 ·have h3:n=1∨n=2∨n=4:=by rcases wd hn with h|h|h|h<;>omega
  have e8:bJ .i64 8 (n:Int)=((8*n:Nat):Int):=by rw[fe (a:=8) (by omega) (by omega)];omega
  have e16:bJ .i64 16 (n:Int)=((16*n:Nat):Int):=by rw[fe (a:=16) (by omega) (by omega)];omega
  have w8:ah .u64 ((8*n:Nat):Int)=((8*n:Nat):Int):=cH (by omega) (by omega)
  have w16:ah .u64 ((16*n:Nat):Int)=((16*n:Nat):Int):=cH (by omega) (by omega)
  have e7:aZ .i64 ((8*n:Nat):Int) 1=((8*n-1:Nat):Int):=by rw[cE (by omega) (by omega)];omega
  have hlt:=km n hi lo
  have h32:2^(16*n)≤2^64:=Nat.pow_le_pow_right (by decide) (by omega)
  have hN:mO n hi lo<2^64:=Nat.lt_of_lt_of_le hlt h32
  rw[ar (show(n:Int)≠8 by omega),aj,bu hh n hn,aa,e8,w8,af (fU (by omega)),bu hl n hn,aa]
  dsimp only
  rw[joinU h3 hh hl,e7,AM _ _ (by omega),aa]
  dsimp only
  rw[Dt]
  have hc:br sg (some (kP hi (8*n-1))) (some false)=some (decide (sg=true∧2^(16*n-1)≤mO n hi lo)):=by
   cases sg with
   |false=>rfl
   |true=>
    rw[aI,jj (n:=n) (by omega)]
    have e:(ch hi n/2^(8*n-1)%2=1)↔2^(16*n-1)≤mO n hi lo:=by
     have a1:=gB hi n
     have a2:=gB lo n
     unfold mO
     rcases h3 with rfl|rfl|rfl
     ·rw[show(2:Nat)^(8*1)=256 from rfl]at*
      rw[show(2:Nat)^(8*1-1)=128 from rfl,show(2:Nat)^(16*1-1)=32768 from rfl];omega
     ·rw[show(2:Nat)^(8*2)=65536 from rfl]at*
      rw[show(2:Nat)^(8*2-1)=32768 from rfl,show(2:Nat)^(16*2-1)=2147483648 from rfl];omega
     ·rw[show(2:Nat)^(8*4)=4294967296 from rfl]at*
      rw[show(2:Nat)^(8*4-1)=2147483648 from rfl,show(2:Nat)^(16*4-1)=9223372036854775808 from rfl];omega
    simp only[e,true_and]
  rw[hc,aa]
  unfold nn
  by_cases hs:sg=true∧2^(16*n-1)≤mO n hi lo
  ·rw[decide_eq_true hs,aI,if_pos hs]
   have hI16:(2:Int)^(16*n)=((2^(16*n):Nat):Int):=(jO _).symm
   rw[hI16]
   obtain⟨N,hNe⟩:∃N,N=mO n hi lo:=⟨_,rfl⟩
   rw[←hNe]at hlt hN hs⊢
   have hneg:(N:Int)-((2^(16*n):Nat):Int)<0:=by omega
   rw[if_pos hneg]
   refine Exists.elim (p:=fun l:Nat=>(br (ltI (n:Int) 4) (br (leI 0 (ah .u64 (bJ .i64 16 (n:Int)))) (some (Sum.inl (((ior .u64 (N:Int) (dF .u64 18446744073709551615 (ah .u64 (bJ .i64 16 (n:Int))))),()),()):Sum ((Int×Unit)×Unit) ((Int×Int×Unit)×Unit))) none) (some (Sum.inl (((N:Int),()),()))))=some (Sum.inl (((l:Int),()),()))∧(l:Int)=(N:Int)-((2^(16*n):Nat):Int)+18446744073709551616) ?_ ?_
   ·by_cases h4:n=4
    ·subst h4
     rw[gH (by decide),aj]
     refine⟨N,rfl,?_⟩
     rw[show((2^(16*4):Nat):Int)=18446744073709551616 from rfl];omega
    ·have h12:n=1∨n=2:=by omega
     rw[ij (by omega),aI,e16,w16,af (fU (by omega))]
     have hm:dF .u64 18446744073709551615 ((16*n:Nat):Int)=((2^64-2^(16*n):Nat):Int):=by
      have:dF .u64 ((18446744073709551615:Nat):Int) ((16*n:Nat):Int)=_:=Gy (a:=18446744073709551615) (s:=16*n) (by omega)
      rw[show(18446744073709551615:Int)=((18446744073709551615:Nat):Int)from rfl,this]
      rcases h12 with rfl|rfl<;>decide +kernel
     have hor:N|||(2^64-2^(16*n))=N+(2^64-2^(16*n)):=by
      obtain⟨t,ht⟩:∃t,2^64-2^(16*n)=2^(16*n)*t:=⟨2^(64-16*n)-1,by rw[Nat.mul_sub,←Nat.pow_add,show 16*n+(64-16*n)=64 by omega,Nat.mul_one]⟩
      rw[ht,Nat.or_comm,←Nat.two_pow_add_eq_or_of_lt hlt,Nat.add_comm]
     rw[hm,orU hN (by have:=Nat.two_pow_pos (16*n);omega),hor]
     refine⟨_,rfl,?_⟩
     have h64:(2:Nat)^64=18446744073709551616:=rfl
     rw[h64]at h32⊢
     generalize 2^(16*n)=P at*
     omega
   ·rintro l ⟨el,hl2⟩
    rw[el,aa,ag]
    have hlo0:0≤(l:Int):=by omega
    refine⟨18446744073709551615,(l:Int),rfl,by omega,by omega,by omega,?_,?_⟩
    ·omega
    ·omega
  ·rw[decide_eq_false hs,aj,if_neg hs,if_neg (by omega)]
   refine⟨0,_,rfl,by omega,by omega,by omega,?_,by omega⟩
   have:((mO n hi lo:Nat):Int)<((2^64:Nat):Int):=Int.ofNat_lt.2 hN
   exact this
set_option linter.unusedVariables false
theorem negA {h l p:Int}(h0:0≤h)(l0:0≤l)(l1:l<18446744073709551616)(h1:h<18446744073709551616)(e:h*18446744073709551616+l=p+340282366920938463463374607431768211456)(hp: -170141183460469231731687303715884105728≤p)(hp0:p<0):
  ((-l)%18446744073709551616=0→(18446744073709551615-h+1)%18446744073709551616*18446744073709551616+(-l)%18446744073709551616= -p)∧
  (¬(-l)%18446744073709551616=0→(18446744073709551615-h)*18446744073709551616+(-l)%18446744073709551616= -p):=by
 constructor<;>intro g<;>omega
theorem topH {h l X:Int}(h0:0≤h)(h1:h<18446744073709551616)(l0:0≤l)(l1:l<18446744073709551616)(hX: -170141183460469231731687303715884105728≤X)(hX2:X<170141183460469231731687303715884105728)
  (e:h*18446744073709551616+l=(if X<0 then X+340282366920938463463374607431768211456 else X)):h/9223372036854775808=1↔X<0:=by
 split at e<;>omega
theorem DY {n:Nat}(hn:co (n:Int)=true)(hi lo:Int):nn true n hi lo<170141183460469231731687303715884105728:=by
 have hlt:=km n hi lo
 unfold nn
 generalize mO n hi lo=N at*
 rcases wd hn with rfl|rfl|rfl|rfl
 ·rw[show(2:Nat)^(16*1)=65536 from rfl]at hlt
  rw[show(2:Nat)^(16*1-1)=32768 from rfl,show(2:Int)^(16*1)=65536 from rfl]
  split<;>omega
 ·rw[show(2:Nat)^(16*2)=4294967296 from rfl]at hlt
  rw[show(2:Nat)^(16*2-1)=2147483648 from rfl,show(2:Int)^(16*2)=4294967296 from rfl]
  split<;>omega
 ·rw[show(2:Nat)^(16*4)=18446744073709551616 from rfl]at hlt
  rw[show(2:Nat)^(16*4-1)=9223372036854775808 from rfl,show(2:Int)^(16*4)=18446744073709551616 from rfl]
  split<;>omega
 ·rw[show(2:Nat)^(16*8)=340282366920938463463374607431768211456 from rfl]at hlt
  rw[show(2:Nat)^(16*8-1)=170141183460469231731687303715884105728 from rfl,show(2:Int)^(16*8)=340282366920938463463374607431768211456 from rfl]
  split
  ·omega
  ·rename_i g
   have:¬170141183460469231731687303715884105728≤N:=fun z=>g ⟨rfl,z⟩
   omega
theorem Cm {n:Nat}(hn:co (n:Int)=true)(t:Bool){q:Nat}(hq:q<18446744073709551616):bZ (ah .i64 (if t=true then aZ .u64 0 (q:Int)else(q:Int))) n=ku n (negI t q):=by
 have h8:=(dR hn).2
 refine ou hn (gK _) ?_
 unfold ah negI
 rw[b9,bn,Int.emod_emod_of_dvd _ (by have:=Ba h8;exact this)]
 cases t with
 |false=>rw[if_neg (by decide),if_neg (by decide)]
 |true=>
  rw[if_pos rfl,if_pos rfl,subU,Int.emod_emod_of_dvd _ (Ba h8),Int.zero_sub]
theorem uS {op hi lo d:Int}{n:Nat}(hn:co (n:Int)=true)(hh:I64 hi)(hl:I64 lo)(hd:I64 d):
  ∃q r:Int,dz ((op,((n:Int),(hi,(lo,(d,()))))),())=some ((q,(r,((sI op n hi lo d).2.2,()))),())∧((sI op n hi lo d).2.2=true→q=(sI op n hi lo d).1∧r=(sI op n hi lo d).2.1):=by
 obtain⟨h1,h8⟩:=dR hn
 obtain⟨sg,hsg⟩:∃sg:Bool,sg=decide (op=16):=⟨_,rfl⟩
 have heq:eqI op 16=sg:=by rw[hsg];rfl
 suffices hsuf:Ret (dz ((op,((n:Int),(hi,(lo,(d,()))))),())) (fun y=>∃q r:Int,y=((q,(r,((sI op n hi lo d).2.2,()))),())∧((sI op n hi lo d).2.2=true→q=(sI op n hi lo d).1∧r=(sI op n hi lo d).2.1))by
  obtain⟨y,e,q,r,rfl,g⟩:=hsuf
  exact⟨q,r,e,g⟩
 unfold dz
 dsimp only
 rw[heq]
 obtain⟨h,l,e1,a1,a2,a3,a4,hX⟩:=zJ hn hh hl sg
 have hxb:=A0 (sg:=sg) hn hi lo
 have hxt:sg=true→nn sg n hi lo<170141183460469231731687303715884105728:=fun g=>by rw[g];exact DY hn hi lo
 unfold sI
 rw[←hsg]
 obtain⟨X,hXe⟩:∃X,X=nn sg n hi lo:=⟨_,rfl⟩
 obtain⟨D,hDe⟩:∃D,D=mz sg n d:=⟨_,rfl⟩
 have hDb:=F8 sg hn d
 rw[←hXe]at hX hxb hxt
 rw[←hDe]at hDb
 rw[←hXe,←hDe]
 obtain⟨q,hq⟩:∃q,q=X.natAbs/D.natAbs:=⟨_,rfl⟩
 obtain⟨r,hr⟩:∃r,r=X.natAbs%D.natAbs:=⟨_,rfl⟩
 rw[←hq,←hr,e1,aa,bu hd n hn,aa]
 dsimp only
 have hsx:aT ((d,((n:Int),())),())=some (sx (8*n-1) d,()):=by
  rw[jy _ _ (by omega) (by omega),show(8*(n:Int)-1).toNat=8*n-1 by omega]
 have hsxI:=gS (8*n-1) (by omega) d
 refine Ret.bnd (Q:=fun y=>y=Sum.inl (((n:Int),(sg,(h,(l,(((D.natAbs:Nat):Int),(decide (X<0),(At X D,()))))))),())∧D.natAbs<18446744073709551616) ?_ ?_
 ·cases sg with
  |true=>
   obtain⟨z1,z2⟩:=ol hsxI
   rw[aI,hsx,aa]
   rw[z1,aa,aa]
   have hD:D=sx (8*n-1) d:=by rw[hDe];exact if_pos rfl
   rw[BL]
   have ht:=topH a1 a2 a3 a4 hxb.1 (hxt rfl) hX
   have e2:eqI (h/9223372036854775808) 1=decide (X<0):=by
    unfold eqI;rw[Bool.eq_iff_iff,decide_eq_true_eq,decide_eq_true_eq];exact ht
   have e3:aY (eqB (decide (X<0)) (ltI (sx (8*n-1) d) 0))=At X D:=by
    rw[hD]
    unfold At ltI
    cases decide (X<0)<;>cases decide (sx (8*n-1) d<0)<;>rfl
   dsimp only
   rw[e2,e3]
   exact Ret.some ⟨by rw[hD],by rw[hD];exact z2⟩
  |false=>
   have hD:D=(ch d n:Int):=by rw[hDe];exact if_neg (by decide)
   have hX0:=hxb.2.2 rfl
   have hu:=eH d
   have hle:ch d n≤uns d:=Nat.mod_le _ _
   rw[aj,eG,cB hd hn]
   have e3:At X D=false:=by
    unfold At
    rw[decide_eq_false (by omega),decide_eq_false (by omega)];rfl
   rw[e3,decide_eq_false (by omega),hD,Int.natAbs_natCast]
   exact Ret.some ⟨rfl,by omega⟩
 rintro _ ⟨rfl,hDlt⟩
 rw[ag]
 dsimp only[p5,p6]
 refine Ret.bnd (Q:=fun y=>∃h' l':Nat,h'<18446744073709551616∧l'<18446744073709551616∧h'*18446744073709551616+l'=X.natAbs∧y=Sum.inl (((n:Int),(sg,((h':Int),((l':Int),(((D.natAbs:Nat):Int),(decide (X<0),(At X D,()))))))),())) ?_ ?_
 ·have fin:∀h' l':Int,0≤h'→h'<18446744073709551616→0≤l'→l'<18446744073709551616→h'*18446744073709551616+l'=((X.natAbs:Nat):Int)→∃a b:Nat,a<18446744073709551616∧b<18446744073709551616∧a*18446744073709551616+b=X.natAbs∧h'=(a:Int)∧l'=(b:Int):=fun h' l' b1 b2 b3 b4 b5=>⟨h'.toNat,l'.toNat,by omega,by omega,by omega,by omega,by omega⟩
  by_cases hx:X<0
  ·rw[decide_eq_true hx,aI,subU,inotU a1 a2,AE,Int.zero_sub]
   rw[if_pos hx]at hX
   obtain⟨n1,n2⟩:=negA a1 a3 a4 a2 hX hxb.1 hx
   refine Ret.bnd (Q:=fun y=>∃h' l':Nat,h'<18446744073709551616∧l'<18446744073709551616∧h'*18446744073709551616+l'=X.natAbs∧y=Sum.inl (((n:Int),(sg,((h':Int),((l':Int),(((D.natAbs:Nat):Int),(true,(At X D,()))))))),())) ?_ (by rintro _ ⟨h',l',g1,g2,g3,rfl⟩;rw[ag];exact Ret.some ⟨h',l',g1,g2,g3,rfl⟩)
   by_cases hz:(-l)%18446744073709551616=0
   ·obtain⟨a,b,g1,g2,g3,g4,g5⟩:=fin _ _ (by omega) (by omega) (by omega) (by omega) ((n1 hz).trans (by omega))
    rw[bc hz,aI,g4,g5]
    exact Ret.some ⟨a,b,g1,g2,g3,rfl⟩
   ·obtain⟨a,b,g1,g2,g3,g4,g5⟩:=fin _ _ (by omega) (by omega) (by omega) (by omega) ((n2 hz).trans (by omega))
    rw[ar hz,aj,g4,g5]
    exact Ret.some ⟨a,b,g1,g2,g3,rfl⟩
  ·rw[if_neg hx]at hX
   obtain⟨a,b,g1,g2,g3,g4,g5⟩:=fin h l a1 a2 a3 a4 (hX.trans (by omega))
   rw[decide_eq_false hx,aj,g4,g5]
   exact Ret.some ⟨a,b,g1,g2,g3,rfl⟩
 rintro _ ⟨h',l',b1,b2,hM,rfl⟩
 rw[ag]
 dsimp only[p5,p6]
 by_cases hov:D.natAbs≤h'
 ·have hb:uq X.natAbs D.natAbs=true:=decide_eq_true (by omega)
  rw[fU (by omega),aI]
  unfold F5
  rw[if_pos hb]
  exact Ret.some ⟨0,0,rfl,fun g=>by cases g⟩
 have hb:¬uq X.natAbs D.natAbs=true:=fun g=>by
  have:=of_decide_eq_true g
  omega
 rw[jR (by omega),aj,uO (by omega) hDlt b2,aa,hM,←hq,←hr]
 dsimp only
 have hq64:q<18446744073709551616:=by rw[hq];exact Nat.div_lt_of_lt_mul (by omega)
 have hr64:r<18446744073709551616:=by
  rw[hr]
  have:X.natAbs%D.natAbs<D.natAbs:=Nat.mod_lt _ (by omega)
  omega
 have hrD:r<D.natAbs:=by rw[hr];exact Nat.mod_lt _ (by omega)
 have hDn:sg=false→D.natAbs<2^(8*n):=fun g=>by
  have h5:=hDb.2.1
  have h6:=hDb.2.2.2 g
  have:((D.natAbs:Nat):Int)<((2^(8*n):Nat):Int):=by rw[jO];omega
  exact Int.ofNat_lt.1 this
 clear hov hXe hDe hq hr hM hxb hxt hDb hX e1
 have e8:bJ .i64 8 (n:Int)=((8*n:Nat):Int):=by rw[fe (a:=8) (by omega) (by omega)];omega
 have w8:ah .u64 ((8*n:Nat):Int)=((8*n:Nat):Int):=cH (by omega) (by omega)
 have e7:aZ .i64 ((8*n:Nat):Int) 1=((8*n-1:Nat):Int):=by rw[cE (by omega) (by omega)];omega
 have w7:ah .u64 ((8*n-1:Nat):Int)=((8*n-1:Nat):Int):=cH (by omega) (by omega)
 rw[e8,w8,e7,w7]
 cases sg with
 |false=>
  rw[show aY false=true from rfl,aI,af (show leI 0 ((8*n:Nat):Int)=true from fU (by omega)),Ac (by omega)]
  have hok:br (eqI (n:Int) 8) (some true) (some (eqI ((q/2^(8*n):Nat):Int) 0))=some (decide (q<2^(8*n))):=by
   by_cases g:n=8
   ·subst g
    rw[bc (by rfl),aI,decide_eq_true (by exact hq64)]
   ·rw[ar (by omega),aj]
    congr 1
    unfold eqI
    rw[Bool.eq_iff_iff,decide_eq_true_eq,decide_eq_true_eq]
    have hp:=Nat.two_pow_pos (8*n)
    rw[show(((q/2^(8*n):Nat):Int)=0)↔q/2^(8*n)=0 from by omega,Nat.div_eq_zero_iff_lt hp]
  rw[hok,aa]
  unfold F5
  rw[if_neg hb,if_pos rfl]
  dsimp only
  refine Ret.some ⟨_,_,rfl,fun g=>?_⟩
  have gq:=of_decide_eq_true g
  have gr:r<2^(8*n):=Nat.lt_trans hrD (hDn rfl)
  have hw:∀z:Nat,z<2^(8*n)→ah .i64 (z:Int)=ku n (z:Int):=fun z hz=>by
   unfold ku ah
   have:(z:Int)%2^(8*n)=(z:Int):=by rw[←jO,←Int.natCast_emod,Nat.mod_eq_of_lt hz]
   rw[this]
  exact⟨hw q gq,hw r gr⟩
 |true=>
  rw[show aY true=false from rfl,aj,af (show leI 0 ((8*n-1:Nat):Int)=true from fU (by omega))]
  have hlim:dF .u64 1 ((8*n-1:Nat):Int)=((2^(8*n-1):Nat):Int):=by
   have:dF .u64 ((1:Nat):Int) ((8*n-1:Nat):Int)=_:=Gy (a:=1) (s:=8*n-1) (by omega)
   rw[show(1:Int)=((1:Nat):Int)from rfl,this,Nat.one_mul,Nat.mod_eq_of_lt]
   have:2^(8*n-1)<2^64:=Nat.pow_lt_pow_right (by decide) (by omega)
   exact this
  rw[hlim]
  obtain⟨t,ht⟩:∃t:Bool,t=At X D:=⟨_,rfl⟩
  unfold F5
  rw[if_neg hb,if_neg (show ¬true=false by decide),←ht]
  obtain⟨P,hP⟩:∃P,P=2^(8*n-1):=⟨_,rfl⟩
  have hcond:br (ltI ((2^(8*n-1):Nat):Int) (q:Int)) (some true) (bnd (br (eqI (q:Int) ((2^(8*n-1):Nat):Int)) (some (aY t)) (some false)) (fun x15=>some x15))=some (ur t n q):=by
   unfold ur
   rw[←hP]
   by_cases g:P<q
   ·rw[ij (by omega),aI]
    cases t with
    |true=>rw[if_pos rfl,decide_eq_true g]
    |false=>rw[if_neg (by decide),decide_eq_true (by omega)]
   ·rw[gH (by omega),aj]
    by_cases g2:q=P
    ·rw[bc (by omega),aI,aa]
     cases t with
     |true=>rw[if_pos rfl,decide_eq_false g];rfl
     |false=>rw[if_neg (by decide),decide_eq_true (by omega)];rfl
    ·rw[ar (by omega),aj,aa]
     cases t with
     |true=>rw[if_pos rfl,decide_eq_false g]
     |false=>rw[if_neg (by decide),decide_eq_false (by omega)]
  rw[hcond,aa]
  by_cases ho:ur t n q=true
  ·rw[ho,aI,if_pos rfl]
   exact Ret.some ⟨0,0,rfl,fun g=>by cases g⟩
  ·rw[Bool.eq_false_iff.2 ho,aj,if_neg (by decide)]
   refine Ret.bnd (Q:=fun y=>y=Sum.inl (((n:Int),(decide (X<0),((if t=true then aZ .u64 0 (q:Int)else(q:Int)),((r:Int),())))),())) ?_ ?_
   ·cases t with
    |true=>rw[aI];exact Ret.some rfl
    |false=>rw[aj];exact Ret.some rfl
   rintro _ rfl
   rw[ag]
   dsimp only
   refine Ret.bnd (Q:=fun y=>y=Sum.inl (((n:Int),((if t=true then aZ .u64 0 (q:Int)else(q:Int)),((if decide (X<0)=true then aZ .u64 0 (r:Int)else(r:Int)),()))),())) ?_ ?_
   ·cases decide (X<0)with
    |true=>rw[aI];exact Ret.some rfl
    |false=>rw[aj];exact Ret.some rfl
   rintro _ rfl
   rw[ag]
   dsimp only
   rw[bu (gK _) n hn,bu (gK _) n hn,aa,aa,Cm hn _ hq64,Cm hn _ hr64]
   exact Ret.some ⟨_,_,rfl,fun _=>⟨rfl,rfl⟩⟩
noncomputable section
theorem pR (m:List Page)(a p:Int):∀(n:Nat) (k:Int),dS m a p n k=0∨dS m a p n k=13∨dS m a p n k=14
 |0,k=> .inl rfl
 |n+1,k=>by
  have ih:=pR m a p n (k+1)
  unfold dS
  split
  ·exact .inr (.inl rfl)
  ·split
   ·exact .inr (.inr rfl)
   ·exact ih
def jN (m:List Page)(a:Int)(n:Nat)(v:Int):List Page×Int:=
 match ca (((m,()),(a,((n:Int),(v,())))),())with
 |some x=>(x.2.1,x.1.2.1)
 |none=>(m,0)
theorem tP (m:List Page)(hm:MemT m)(a v:Int)(n:Nat)(hn:co (n:Int)=true)(ha:I64 a):
  ca (((m,()),(a,((n:Int),(v,())))),())=some (((),((jN m a n v).2,())),((jN m a n v).1,()))∧
   ((((jN m a n v).2=13∨(jN m a n v).2=14)∧(jN m a n v).1=m∧(jN m a n v).2=dS m a 2 n 0∧dS m a 2 n 0≠0)∨((jN m a n v).2=0∧dS m a 2 n 0=0∧Laid m a (leB v n) n (jN m a n v).1)):=by
 obtain⟨n1,n8⟩:=dR hn
 have hl:=hm.len
 have key:∃x e,ca (((m,()),(a,((n:Int),(v,())))),())=some (((),(e,())),(x,()))∧
   (((e=13∨e=14)∧x=m∧e=dS m a 2 n 0∧dS m a 2 n 0≠0)∨(e=0∧dS m a 2 n 0=0∧Laid m a (leB v n) n x)):=by
  unfold ca
  dsimp only
  rw[jn m hm.r a 2 n (by omega) ha (by decide) n1,aa]
  dsimp only
  by_cases hf:dS m a 2 n 0=0
  ·have hok:=lx hm.r n 0 hf
   have hok:∀k,k<(leB v n).length→¬fnd m (a+(k:Nat))<0:=fun k hk=>hok k (Nat.zero_le _) (by rw[om]at hk;omega)
   obtain⟨x,hx1,hx2⟩:=lay_ex m hm a (leB v n) ha (by rw[om];omega) hok
   rw[om]at hx2
   refine⟨x,0,?_,.inr ⟨rfl,hf,hx2⟩⟩
   rw[hf,bc rfl,cf,aj,BU v n n8,aa,hx1,aa]
  ·refine⟨m,dS m a 2 n 0,?_,.inl ⟨by rcases pR m a 2 n 0 with h|h|h;exact absurd h hf;exact .inl h;exact .inr h,rfl,rfl,hf⟩⟩
   rw[ar hf,dw,aI,pL m (by omega),aa]
 obtain⟨x,e,h1,h2⟩:=key
 unfold jN
 rw[h1]
 exact⟨rfl,h2⟩
theorem FL {m:List Page}(hm:MemT m){a v:Int}{n:Nat}(hn:co (n:Int)=true)(ha:I64 a):MemT (jN m a n v).1:=by
 rcases(tP m hm a v n hn ha).2 with ⟨_,h,_⟩|⟨_,_,h⟩
 ·rw[h];exact hm
 ·exact h.memT hm
theorem BX (m:List Page)(a:Int)(n:Nat):I64 (qn m a n).1:=by
 unfold qn
 split
 ·exact au _
 ·unfold I64;dsimp only;omega
structure MS where
 g:List Int
 m:List Page
 code:Int
 l:List Acc
abbrev TM:=(List Int×Int×Int×Int×Int×Unit)×List Page×List Acc×Unit
def MS.t (s:MS)(rip fl nx:Int):TM:=((s.g,rip,fl,nx,s.code,()),s.m,s.l,())
abbrev rg (g:List Int)(i:Int):Int:=aP g i (aB .i)
def jf (g:List Int):Prop:=∀i,I64 (rg g i)
structure MS.ok (s:MS)(k:Nat):Prop where
 m:MemT s.m
 l:s.l.length≤k
 g:jf s.g
theorem MS.ok.mono {s:MS}{k j:Nat}(h:s.ok k)(hk:k≤j):s.ok j:=⟨h.m,Nat.le_trans h.l hk,h.g⟩
def MS.ld (s:MS)(a:Int)(n:Nat):Int×MS:=
 if s.code≠0 then(0,s)else((qn s.m a n).1,{s with code:=(qn s.m a n).2,l:=s.l++[Acc.mk 1 a n (qn s.m a n).1]})
def MS.st (s:MS)(a:Int)(n:Nat)(v:Int):MS:=
 if s.code≠0 then s else {s with m:=(jN s.m a n v).1,code:=(jN s.m a n v).2,l:=s.l++[Acc.mk 2 a n (bZ v n)]}
theorem Eb {α:Type}{xs:List α}{x:α}(h:xs.length≤1000):ii xs [x]=true:=by
 exact kT (by simp;omega)
theorem BY {s:MS}{k:Nat}(hs:s.ok k)(hk:k≤1000){a:Int}(ha:I64 a){n:Nat}(hn:co (n:Int)=true)(rip fl nx:Int):
  aM ((a,((n:Int),())),s.t rip fl nx)=some ((s.ld a n).1,(s.ld a n).2.t rip fl nx):=by
 obtain⟨n1,n8⟩:=dR hn
 unfold aM MS.t MS.ld
 dsimp only
 by_cases hc:s.code=0
 ·rw[hc,if_neg (by simp),bc rfl,cf,aj,uJ _ hs.m.r a n n1 n8 ha,aa]
  dsimp only
  rw[Eb (Nat.le_trans hs.l hk),aI]
  rfl
 ·rw[if_pos hc,ar hc,dw,aI]
theorem xH {s:MS}{k:Nat}(hs:s.ok k)(hk:k≤1000){a v:Int}(ha:I64 a){n:Nat}(hn:co (n:Int)=true)(rip fl nx:Int):
  aC ((a,((n:Int),(v,()))),s.t rip fl nx)=some ((),(s.st a n v).t rip fl nx):=by
 unfold aC MS.t MS.st
 dsimp only
 by_cases hc:s.code=0
 ·rw[hc,if_neg (by simp),bc rfl,cf,aj,(tP _ hs.m a v n hn ha).1,aa,bP v n hn,aa]
  dsimp only
  rw[Eb (Nat.le_trans hs.l hk),aI]
  rfl
 ·rw[if_pos hc,ar hc,dw,aI]
theorem MS.ok.ld {s:MS}{k:Nat}(hs:s.ok k)(a:Int)(n:Nat):(s.ld a n).2.ok (k+1)∧I64 (s.ld a n).1∧(s.ld a n).2.g=s.g∧(s.ld a n).2.m=s.m:=by
 unfold MS.ld
 split
 ·exact⟨hs.mono (Nat.le_succ k),by unfold I64;dsimp only;omega,rfl,rfl⟩
 ·exact⟨⟨hs.m,by simp;exact hs.l,hs.g⟩,BX ..,rfl,rfl⟩
theorem MS.ok.st {s:MS}{k:Nat}(hs:s.ok k){a:Int}(ha:I64 a){n:Nat}(hn:co (n:Int)=true)(v:Int):(s.st a n v).ok (k+1)∧(s.st a n v).g=s.g:=by
 unfold MS.st
 split
 ·exact⟨hs.mono (Nat.le_succ k),rfl⟩
 ·exact⟨⟨FL hs.m hn ha,by simp;exact hs.l,hs.g⟩,rfl⟩
def setA (g:List Int)(i v:Int):List Int:=cF (eA 16 (aB .i) g) i v
def jZ (g:List Int)(r:Int)(n:Nat):Int:=if 16≤r then bZ (cA .i64 (rg g (r-16)) 8) 1 else bZ (rg g r) n
def qT (g:List Int)(r:Int)(n:Nat)(v:Int):List Int:=
 if 16≤r then setA g (r-16) (ior .i64 (gC .i64 (rg g (r-16)) 65280) (dF .i64 (bZ v 1) 8))
 else if 4≤n then setA g r (bZ v n)
 else setA g r (aE .i64 (rg g r) (aZ .i64 (bZ v n) (bZ (rg g r) n)))
theorem jf.setA {g:List Int}(h:jf g){i v:Int}(hv:I64 v):jf (setA g i v):=by
 intro j
 have h0:∀k:Nat,I64 (((eA 16 (aB .i) g)).getD k (aB .i)):=fun k=>by
  unfold eA
  rw[List.getD_eq_getElem?_getD,List.getElem?_append]
  split
  ·have:=h (k:Int)
   unfold rg aP at this
   rw[Int.toNat_natCast,List.getD_eq_getElem?_getD]at this
   exact this
  ·rw[List.getElem?_replicate]
   split
   ·exact(by unfold I64;decide:I64 (0:Int))
   ·exact(by unfold I64;decide:I64 (0:Int))
 unfold rg aP Go.Den.G.setA cF
 rw[List.getD_eq_getElem?_getD,List.getElem?_set]
 split
 ·split
  ·exact hv
  ·exact(by unfold I64;decide:I64 (0:Int))
 ·have:=h0 j.toNat
  rw[List.getD_eq_getElem?_getD]at this
  exact this
theorem sW {g:List Int}(h:jf g){r:Int}{n:Nat}(hn:co (n:Int)=true):I64 (jZ g r n):=by
 unfold jZ
 split
 ·exact eJ (by
   have:=h (r-16)
   unfold I64 at this⊢
   unfold cA
   rw[show(2:Int)^min (Int.toNat 8) IntKind.i64.bits=256 from rfl,Int.fdiv_eq_ediv_of_nonneg _ (by decide)]
   omega) (by rfl)
 ·exact eJ (h r) hn
theorem le {g:List Int}(h:jf g){r v:Int}(hv:I64 v){n:Nat}(hn:co (n:Int)=true):jf (qT g r n v):=by
 unfold qT
 split
 ·exact h.setA (kj ..)
 ·split
  ·exact h.setA (eJ hv hn)
  ·exact h.setA (au _)
theorem lD (r:Int):aG ((r,()),())=some (decide (16≤r∧r≤19),()):=by
 unfold aG
 dsimp only
 rw[l5,aa]
 congr 2
 unfold inB
 rw[Bool.eq_iff_iff]
 simp
def mw (g:List Int)(nx:Int)(o:Opd):Int:=
 let a:=if o.base=16 then aE .i64 o.disp nx else if 0≤o.base then aE .i64 o.disp (rg g o.base)else o.disp
 if 0≤o.index then aE .i64 a (bJ .i64 (rg g o.index) o.scale)else a
structure OpV (o:Opd)(z:Int):Prop where
 r:o.kind≠2→(o.kind=1→qM o.reg z)
 b:o.kind=2→o.base≤16∧o.index≤15
 d:I64 o.disp
 i:I64 o.imm
theorem kM {g:List Int}{nx:Int}{o:Opd}{z:Int}(h:OpV o z):I64 (mw g nx o):=by
 unfold mw
 dsimp only
 split
 ·exact au _
 ·split
  ·exact au _
  ·split
   ·exact au _
   ·exact h.d
def MS.rd (s:MS)(nx:Int)(o:Opd)(n:Nat):Int×MS:=
 if o.kind=1 then(jZ s.g o.reg n,s)else if o.kind=2 then s.ld (mw s.g nx o) n else(o.imm,s)
def MS.wr (s:MS)(nx:Int)(o:Opd)(n:Nat)(v:Int):MS:=
 if o.kind=2 then s.st (mw s.g nx o) n v else {s with g:=qT s.g o.reg n v}
theorem Gu {s:MS}{k:Nat}(hs:s.ok k)(hk:k≤1000){o:Opd}{n:Nat}(hn:co (n:Int)=true)(hv:OpV o n)(rip fl nx:Int):
  aq ((cZ o (),((n:Int),())),s.t rip fl nx)=some ((s.rd nx o n).1,(s.rd nx o n).2.t rip fl nx):=by
 unfold aq
 dsimp only[cZ,p5,p6]
 have hI:=kM (g:=s.g) (nx:=nx) hv
 have hl:=BY hs hk hI hn rip fl nx
 by_cases h1:o.kind=1
 ·have hr:=hv.r (by omega) h1
  unfold MS.rd
  rw[if_pos h1,bc h1,aI,lD,aa]
  unfold qM at hr
  dsimp only
  unfold jZ MS.t
  by_cases h16:16≤o.reg
  ·rw[decide_eq_true ⟨h16,by omega⟩,aI,if_pos h16,cE (by omega) (by omega),af (cI (by omega) (by omega)),show(1:Int)=((1:Nat):Int)from rfl,bP _ 1 rfl,aa]
  ·rw[decide_eq_false (by omega),aj,if_neg h16,af (cI (by omega) (by omega)),bP _ n hn,aa]
 ·rw[ar h1,aj]
  by_cases h2:o.kind=2
  ·have hb:=hv.b h2
   unfold MS.rd
   rw[if_neg h1,if_pos h2,bc h2,aI]
   have hg:=(hs.ld (mw s.g nx o) n).2.2.1
   have hfin:∀a:Int,a=mw s.g nx o→(bnd (aM ((a,((n:Int),())),s.t rip fl nx)) (fun x5=>some (x5.1,((s.g,(rip,(fl,(nx,x5.2.1.2.2.2.2)))),x5.2.2))))=some ((s.ld (mw s.g nx o) n).1,(s.ld (mw s.g nx o) n).2.t rip fl nx):=by
    rintro _ rfl
    rw[hl,aa]
    unfold MS.t
    dsimp only
    rw[hg]
   unfold MS.t at hfin⊢
   dsimp only
   by_cases b16:o.base=16
   ·rw[bc b16,aI]
    by_cases hi:0≤o.index
    ·rw[af (fU hi),af (cI hi (by omega))]
     exact hfin _ (by unfold mw;dsimp only;rw[if_pos b16,if_pos hi])
    ·rw[an (jR hi)]
     exact hfin _ (by unfold mw;dsimp only;rw[if_pos b16,if_neg hi])
   ·rw[ar b16,aj]
    by_cases hb0:0≤o.base
    ·rw[af (fU hb0),af (cI hb0 (by omega))]
     by_cases hi:0≤o.index
     ·rw[af (fU hi),af (cI hi (by omega))]
      exact hfin _ (by unfold mw;dsimp only;rw[if_neg b16,if_pos hb0,if_pos hi])
     ·rw[an (jR hi)]
      exact hfin _ (by unfold mw;dsimp only;rw[if_neg b16,if_pos hb0,if_neg hi])
    ·rw[an (jR hb0)]
     by_cases hi:0≤o.index
     ·rw[af (fU hi),af (cI hi (by omega))]
      exact hfin _ (by unfold mw;dsimp only;rw[if_neg b16,if_neg hb0,if_pos hi])
     ·rw[an (jR hi)]
      exact hfin _ (by unfold mw;dsimp only;rw[if_neg b16,if_neg hb0,if_neg hi])
  ·unfold MS.rd
   rw[if_neg h1,if_neg h2,ar h2,aj]
theorem set_m {g:List Int}{r v:Int}{n:Nat}(hn:co (n:Int)=true)(hr:qM r n){α:Type}(Z:List Int→Option α):
  (bnd (aG ((r,()),())) (fun x8=>(br x8.1 (br (inR (aZ .i64 r 16) 16) (bnd (ae ((v,(1,())),())) (fun x9=>Z (cF (eA 16 (aB .i) g) (aZ .i64 r 16) (ior .i64 (gC .i64 (aP g (aZ .i64 r 16) (aB .i)) 65280) (dF .i64 x9.1 8))))) none) (br (leI 4 (n:Int)) (bnd (ae ((v,((n:Int),())),())) (fun x10=>(br (inR r 16) (Z (cF (eA 16 (aB .i) g) r x10.1)) none))) (br (inR r 16) (br (inR r 16) (bnd (ae ((v,((n:Int),())),())) (fun x11=>(bnd (ae (((aP g r (aB .i)),((n:Int),())),())) (fun x12=>(br (inR r 16) (Z (cF (eA 16 (aB .i) g) r (aE .i64 (aP g r (aB .i)) (aZ .i64 x11.1 x12.1)))) none))))) none) none)))))=Z (qT g r n v):=by
 unfold qM at hr
 rw[lD,aa]
 dsimp only
 unfold qT Go.Den.G.setA
 by_cases h16:16≤r
 ·rw[decide_eq_true ⟨h16,by omega⟩,aI,if_pos h16,cE (by omega) (by omega),af (cI (by omega) (by omega)),show(1:Int)=((1:Nat):Int)from rfl,bP _ 1 rfl,aa]
 ·rw[decide_eq_false (by omega),aj,if_neg h16]
  have hin:inR r 16=true:=cI (by omega) (by omega)
  by_cases h4:4≤n
  ·rw[af (fU (by omega)),bP _ n hn,aa,hin,aI,if_pos h4]
  ·rw[an (jR (by omega)),hin,aI,aI,bP _ n hn,bP _ n hn,aa,aa,aI,if_neg h4]
theorem write_m {s:MS}{k:Nat}(hs:s.ok k)(hk:k≤1000){o:Opd}{n:Nat}{v:Int}(hn:co (n:Int)=true)(hv:OpV o n)(h0:o.kind=1∨o.kind=2)(rip fl nx:Int):
  ap ((cZ o (),((n:Int),(v,()))),s.t rip fl nx)=some ((),(s.wr nx o n v).t rip fl nx):=by
 unfold ap
 dsimp only[cZ,p5,p6]
 have hI:=kM (g:=s.g) (nx:=nx) hv
 have hl:=xH hs hk (v:=v) hI hn rip fl nx
 by_cases h2:o.kind=2
 ·have hb:=hv.b h2
  unfold MS.wr
  rw[if_pos h2,bc h2,aI]
  have hg:=(hs.st (v:=v) hI hn).2
  have hfin:∀a:Int,a=mw s.g nx o→(bnd (aC ((a,((n:Int),(v,()))),s.t rip fl nx)) (fun x5=>some ((),((s.g,(rip,(fl,(nx,x5.2.1.2.2.2.2)))),x5.2.2))))=some ((),(s.st (mw s.g nx o) n v).t rip fl nx):=by
   rintro _ rfl
   rw[hl,aa]
   unfold MS.t
   dsimp only
   rw[hg]
  unfold MS.t at hfin⊢
  dsimp only
  by_cases b16:o.base=16
  ·rw[bc b16,aI]
   by_cases hi:0≤o.index
   ·rw[af (fU hi),af (cI hi (by omega))]
    exact hfin _ (by unfold mw;dsimp only;rw[if_pos b16,if_pos hi])
   ·rw[an (jR hi)]
    exact hfin _ (by unfold mw;dsimp only;rw[if_pos b16,if_neg hi])
  ·rw[ar b16,aj]
   by_cases hb0:0≤o.base
   ·rw[af (fU hb0),af (cI hb0 (by omega))]
    by_cases hi:0≤o.index
    ·rw[af (fU hi),af (cI hi (by omega))]
     exact hfin _ (by unfold mw;dsimp only;rw[if_neg b16,if_pos hb0,if_pos hi])
    ·rw[an (jR hi)]
     exact hfin _ (by unfold mw;dsimp only;rw[if_neg b16,if_pos hb0,if_neg hi])
   ·rw[an (jR hb0)]
    by_cases hi:0≤o.index
    ·rw[af (fU hi),af (cI hi (by omega))]
     exact hfin _ (by unfold mw;dsimp only;rw[if_neg b16,if_neg hb0,if_pos hi])
    ·rw[an (jR hi)]
     exact hfin _ (by unfold mw;dsimp only;rw[if_neg b16,if_neg hb0,if_neg hi])
 ·have h1:o.kind=1:=by omega
  unfold MS.wr
  rw[if_neg h2,ar h2,aj]
  exact set_m hn (hv.r h2 h1) (fun g'=>some ((),((g',(rip,(fl,(nx,(s.code,()))))),(s.m,(s.l,())))))
theorem MS.ok.rd {s:MS}{k:Nat}(hs:s.ok k)(nx:Int){o:Opd}{n:Nat}(hn:co (n:Int)=true)(hv:OpV o n):(s.rd nx o n).2.ok (k+1)∧I64 (s.rd nx o n).1∧(s.rd nx o n).2.g=s.g∧(s.rd nx o n).2.m=s.m:=by
 unfold MS.rd
 split
 ·exact⟨hs.mono (Nat.le_succ k),sW hs.g hn,rfl,rfl⟩
 ·split
  ·exact hs.ld ..
  ·exact⟨hs.mono (Nat.le_succ k),hv.i,rfl,rfl⟩
theorem MS.ok.wr {s:MS}{k:Nat}(hs:s.ok k)(nx:Int){o:Opd}{n:Nat}{v:Int}(hI:I64 v)(hn:co (n:Int)=true)(hv:OpV o n):(s.wr nx o n v).ok (k+1):=by
 unfold MS.wr
 split
 ·exact(hs.st (kM hv) hn v).1
 ·exact⟨hs.m,Nat.le_trans hs.l (Nat.le_succ k),le hs.g hI hn⟩
def MS.pu (s:MS)(v:Int):MS:=({s with g:=setA s.g 4 (aZ .i64 (rg s.g 4) 8)}:MS).st (rg (setA s.g 4 (aZ .i64 (rg s.g 4) 8)) 4) 8 v
def MS.po (s:MS):Int×MS:=((s.ld (rg s.g 4) 8).1,{(s.ld (rg s.g 4) 8).2 with g:=setA s.g 4 (aE .i64 (rg s.g 4) 8)})
theorem MS.ok.setA {s:MS}{k:Nat}(hs:s.ok k){i v:Int}(hv:I64 v):MS.ok {s with g:=Go.Den.G.setA s.g i v} k:=⟨hs.m,hs.l,hs.g.setA hv⟩
theorem MS.ok.pu {s:MS}{k:Nat}(hs:s.ok k)(v:Int):(s.pu v).ok (k+1):=by
 have h1:=hs.setA (i:=4) (v:=aZ .i64 (rg s.g 4) 8) (au _)
 exact(h1.st (h1.g 4) rfl v).1
theorem MS.ok.po {s:MS}{k:Nat}(hs:s.ok k):s.po.2.ok (k+1)∧I64 s.po.1∧s.po.2.m=s.m:=by
 have h1:=hs.ld (rg s.g 4) 8
 unfold MS.po
 exact⟨⟨h1.1.m,h1.1.l,hs.g.setA (au _)⟩,h1.2.1,h1.2.2.2⟩
theorem push_m {s:MS}{k:Nat}(hs:s.ok k)(hk:k≤1000)(v rip fl nx:Int):cb ((v,()),s.t rip fl nx)=some ((),(s.pu v).t rip fl nx):=by
 have h1:=hs.setA (i:=4) (v:=aZ .i64 (rg s.g 4) 8) (au _)
 have h2:=xH h1 hk (a:=rg (setA s.g 4 (aZ .i64 (rg s.g 4) 8)) 4) (v:=v) (n:=8) (h1.g 4) rfl rip fl nx
 have h3:=(h1.st (a:=rg (setA s.g 4 (aZ .i64 (rg s.g 4) 8)) 4) (n:=8) (h1.g 4) rfl v).2
 unfold cb
 unfold MS.t at h2⊢
 dsimp only at h2 h3⊢
 have h2':aC (((aP (cF (eA 16 (aB .i) s.g) 4 (aZ .i64 (aP s.g 4 (aB .i)) 8)) 4 (aB .i)),(8,(v,()))),(((cF (eA 16 (aB .i) s.g) 4 (aZ .i64 (aP s.g 4 (aB .i)) 8)),(rip,(fl,(nx,(s.code,()))))),(s.m,(s.l,()))))=_:=h2
 rw[h2',aa]
 unfold MS.pu
 dsimp only
 rw[h3]
 rfl
theorem pop_m {s:MS}{k:Nat}(hs:s.ok k)(hk:k≤1000)(rip fl nx:Int):cq ((),s.t rip fl nx)=some (s.po.1,s.po.2.t rip fl nx):=by
 have h2:=BY hs hk (a:=rg s.g 4) (n:=8) (hs.g 4) rfl rip fl nx
 unfold cq
 unfold MS.t at h2⊢
 dsimp only at h2⊢
 have h2':aM (((aP s.g 4 (aB .i)),(8,())),((s.g,(rip,(fl,(nx,(s.code,()))))),(s.m,(s.l,()))))=_:=h2
 rw[h2',aa]
 rfl
def MS.go (s:MS)(nx:Int)(x:Ins):Int×MS:=if x.src.kind=3 then(aE .i64 nx x.src.imm,s)else s.rd nx x.src 8
theorem goal_m {s:MS}{k:Nat}(hs:s.ok k)(hk:k≤1000){x:Ins}(hv:OpV x.src 8)(rip fl nx:Int):bw ((x,()),s.t rip fl nx)=some ((s.go nx x).1,(s.go nx x).2.t rip fl nx):=by
 have hr:=Gu hs hk (n:=8) rfl hv rip fl nx
 have hg:=(hs.rd nx (n:=8) rfl hv).2.2.1
 unfold bw MS.go
 dsimp only
 by_cases h3:x.src.kind=3
 ·rw[bc h3,aI,if_pos h3]
  rfl
 ·rw[ar h3,aj,if_neg h3]
  have hr':aq ((cZ x.src (),(8,())),s.t rip fl nx)=_:=hr
  rw[hr',aa]
  unfold MS.t
  dsimp only
  rw[hg]
theorem MS.ok.go {s:MS}{k:Nat}(hs:s.ok k)(nx:Int){x:Ins}(hv:OpV x.src 8):(s.go nx x).2.ok (k+1)∧I64 (s.go nx x).1:=by
 unfold MS.go
 split
 ·exact⟨hs.mono (Nat.le_succ k),au _⟩
 ·have:=hs.rd nx (n:=8) rfl hv
  exact⟨this.1,this.2.1⟩
end
set_option synthInstance.maxSize 4000
set_option synthInstance.maxHeartbeats 400000
def kOf (c:UInt8):Int:=if c=114 then 1 else if c=109 then 2 else if c=105 then 3 else 0
def kindT (n:Nat)(kd ks:Int):Bool:=
 decide ((n≤12∨17≤n∧n≤28∨n=30∨n=35∨n=36→kd=1∨kd=2)∧(n=28→ks=1)∧(n=25→kd=1∧ks=2)∧
  (n=9→kd=2→ks≠2)∧(n=26∨n=27∨n=36∨n=17→kd=1∧(ks=1∨ks=2))∧(13≤n∧n≤16→ks=1∨ks=2)∧(n=29∨n=31∨n=32→ks=1∨ks=2∨ks=3)∧(n=33→ks=3)∧
  (20≤n∧n≤24→ks=1∨ks=3)∧(n=11∨n=12∨n=18∨n=19→ks=0)∧(n≤8∨n=10∨n=17→ks=1∨ks=2∨ks=3))
theorem Eu:∀n,n<45→1≤n→∀q∈prK n,q.length=2∧q.getD 0 0∈DS∧q.getD 1 0∈DS∧kindT n (kOf (q.getD 0 0)) (kOf (q.getD 1 0))=true:=by decide +kernel
theorem Gh {k:Int}{c:UInt8}(hc:c∈DS)(h:rq k c):k=kOf c:=by
 have hc:c=114∨c=109∨c=105∨c=48:=by simpa[DS]using hc
 unfold rq at h
 rcases hc with rfl|rfl|rfl|rfl<;>revert h<;>unfold kOf<;>intro h<;>simp at h⊢ <;>omega
theorem Et {n:Nat}(h1:1≤n)(h2:n<45){kd ks:Int}(h:(prK n).any (vA kd ks)=true):kindT n kd ks=true:=by
 rw[List.any_eq_true]at h
 obtain⟨q,hq,hp⟩:=h
 obtain⟨l,a,b,t⟩:=Eu n h2 h1 q hq
 match q,l with
 |[c,d],_=>
  simp only[vA,Bool.and_eq_true,decide_eq_true_eq]at hp
  rw[Gh (c:=c) a hp.1,Gh (c:=d) b hp.2]
  exact t
def sizeT (n:Nat)(z:Int):Bool:=decide ((n≤28∨n=36∨n=40→co z=true)∧(n=39→z=2∨z=4∨z=8)∧(29≤n∧n≤32→z=8)∧(n=35→z=1)∧(n=33→z=0))
theorem FI:∀n,n<45→1≤n→∀z∈szL (szK n),sizeT n z=true:=by decide +kernel
structure ExV (x:Ins)(n:Nat):Prop where
 op:x.op=n
 n1:1≤n
 n2:n<45
 kt:kindT n x.dst.kind x.src.kind=true
 zt:sizeT n x.size=true
 dv:OpV x.dst x.size
 sv:OpV x.src (sSz x n)
 fr:(n=26∨n=27→co x.frm=true)∧(¬(n=26∨n=27)→x.frm=0)
 c0:0≤x.cond
 c1:x.cond≤15
theorem F0 {o:Opd}{z:Int}(h:qE o z)(hd:I64 o.disp)(hi:I64 o.imm):OpV o z:=by
 unfold qE opB Aw at h
 refine⟨fun _ h1=>?_,fun h2=>?_,hd,hi⟩
 ·rcases h with h|h|h|h
  ·exact h.2.2.2.2.2.2
  ·omega
  ·omega
  ·omega
 ·rcases h with h|h|h|h
  ·omega
  ·omega
  ·omega
  ·omega
theorem ExV_of {x:Ins}{n:Nat}(hop:x.op=n)(h1:1≤n)(h2:n<45)(h:Ge x n)(hI:I64 x.dst.disp∧I64 x.dst.imm∧I64 x.src.disp∧I64 x.src.imm):ExV x n:=by
 obtain⟨_,_,hs,hf,_,c0,c1,hd,hsr,_⟩:=h
 unfold shB at hs
 simp only[Bool.and_eq_true,decide_eq_true_eq]at hs
 obtain⟨hz,hk,hnum⟩:=hs
 refine⟨hop,h1,h2,Et h1 h2 hk,FI n h2 h1 _ hz,F0 hd hI.1 hI.2.1,F0 hsr hI.2.2.1 hI.2.2.2,⟨fun h=>?_,fun h=>?_⟩,c0,c1⟩
 ·unfold wc at hnum
  rcases h with rfl|rfl
  ·have hnum:decide (x.frm=1∨x.frm=2∧2<x.size)=true:=hnum
   rcases of_decide_eq_true hnum with h|h
   ·rw[h];rfl
   ·rw[h.1];rfl
  ·have hnum:decide (x.frm=1∨x.frm=2∧2<x.size∨x.frm=4∧x.size=8)=true:=hnum
   rcases of_decide_eq_true hnum with h|h|h
   ·rw[h];rfl
   ·rw[h.1];rfl
   ·rw[h.1];rfl
 ·rcases hf with h'|h'
  ·exact absurd h' h
  ·exact h'
theorem ExV.kd {x:Ins}{n:Nat}(h:ExV x n):(n≤12∨17≤n∧n≤28∨n=30∨n=35∨n=36→x.dst.kind=1∨x.dst.kind=2)∧(n=28→x.src.kind=1)∧(n=25→x.dst.kind=1∧x.src.kind=2)∧
  (n=9→x.dst.kind=2→x.src.kind≠2)∧(n=26∨n=27∨n=36∨n=17→x.dst.kind=1∧(x.src.kind=1∨x.src.kind=2))∧(13≤n∧n≤16→x.src.kind=1∨x.src.kind=2)∧(n=29∨n=31∨n=32→x.src.kind=1∨x.src.kind=2∨x.src.kind=3)∧(n=33→x.src.kind=3)∧
  (20≤n∧n≤24→x.src.kind=1∨x.src.kind=3)∧(n=11∨n=12∨n=18∨n=19→x.src.kind=0)∧(n≤8∨n=10∨n=17→x.src.kind=1∨x.src.kind=2∨x.src.kind=3):=of_decide_eq_true h.kt
theorem ExV.szs {x:Ins}{n:Nat}(h:ExV x n):(n≤28∨n=36∨n=40→co x.size=true)∧(n=39→x.size=2∨x.size=4∨x.size=8)∧(29≤n∧n≤32→x.size=8)∧(n=35→x.size=1)∧(n=33→x.size=0):=of_decide_eq_true h.zt
theorem pp {z:Int}(h:co z=true):∃k:Nat,z=(k:Int)∧co (k:Int)=true:=by
 obtain⟨k,hk,_⟩:=Ep h
 exact⟨k,hk,by rw[←hk];exact h⟩
noncomputable section
theorem z5 {r:Int×MS}{g:List Int}{m:List Page}(hg:r.2.g=g)(hm:r.2.m=m):∃v c' l',r=(v,MS.mk g m c' l'):=by
 obtain⟨v,g',m',c',l'⟩:=r
 cases hg;cases hm
 exact⟨v,c',l',rfl⟩
theorem qK {g:List Int}{m:List Page}{c:Int}{l:List Acc}{k:Nat}(hs:(MS.mk g m c l).ok k)(hk:k≤1000){o:Opd}{n:Nat}(hn:co (n:Int)=true)(hv:OpV o n)(nx:Int):
  ∃v c' l',(MS.mk g m c l).rd nx o n=(v,⟨g,m,c',l'⟩)∧(∀rip fl,aq ((cZ o (),((n:Int),())),((g,rip,fl,nx,c,()),m,l,()))=some (v,((g,rip,fl,nx,c',()),m,l',())))∧(MS.mk g m c' l').ok (k+1)∧I64 v:=by
 obtain⟨h1,h2,h3,h4⟩:=hs.rd nx hn hv
 have h5:=fun rip fl=>Gu hs hk hn hv rip fl nx
 obtain⟨v,c',l',e⟩:=z5 h3 h4
 rw[e]at h1 h2
 refine⟨v,c',l',e,fun rip fl=>?_,h1,h2⟩
 have:=h5 rip fl
 rw[e]at this
 exact this
theorem rB {g:List Int}{m:List Page}{c:Int}{l:List Acc}{k:Nat}(hs:(MS.mk g m c l).ok k)(hk:k≤1000){o:Opd}{n:Nat}(hn:co (n:Int)=true)(hv:OpV o n)(h0:o.kind=1∨o.kind=2)(nx:Int){v:Int}(hI:I64 v):
  ∃g' m' c' l',(MS.mk g m c l).wr nx o n v=⟨g',m',c',l'⟩∧(∀rip fl,ap ((cZ o (),((n:Int),(v,()))),((g,rip,fl,nx,c,()),m,l,()))=some ((),((g',rip,fl,nx,c',()),m',l',())))∧(MS.mk g' m' c' l').ok (k+1):=
 ⟨_,_,_,_,rfl,fun rip fl=>write_m hs hk hn hv h0 rip fl nx,hs.wr nx hI hn hv⟩
theorem pu_ex {g:List Int}{m:List Page}{c:Int}{l:List Acc}{k:Nat}(hs:(MS.mk g m c l).ok k)(hk:k≤1000)(v:Int):
  ∃g' m' c' l',(MS.mk g m c l).pu v=⟨g',m',c',l'⟩∧(∀rip fl nx,cb ((v,()),((g,rip,fl,nx,c,()),m,l,()))=some ((),((g',rip,fl,nx,c',()),m',l',())))∧(MS.mk g' m' c' l').ok (k+1):=
 ⟨_,_,_,_,rfl,fun rip fl nx=>push_m hs hk v rip fl nx,hs.pu v⟩
theorem po_ex {g:List Int}{m:List Page}{c:Int}{l:List Acc}{k:Nat}(hs:(MS.mk g m c l).ok k)(hk:k≤1000):
  ∃v g' m' c' l',(MS.mk g m c l).po=(v,⟨g',m',c',l'⟩)∧(∀rip fl nx,cq ((),((g,rip,fl,nx,c,()),m,l,()))=some (v,((g',rip,fl,nx,c',()),m',l',())))∧(MS.mk g' m' c' l').ok (k+1)∧I64 v:=
 ⟨_,_,_,_,_,rfl,fun rip fl nx=>pop_m hs hk rip fl nx,hs.po.1,hs.po.2.1⟩
theorem go_ex {g:List Int}{m:List Page}{c:Int}{l:List Acc}{k:Nat}(hs:(MS.mk g m c l).ok k)(hk:k≤1000){x:Ins}(hv:OpV x.src 8)(nx:Int):
  ∃v c' l',(MS.mk g m c l).go nx x=(v,⟨g,m,c',l'⟩)∧(∀rip fl,bw ((x,()),((g,rip,fl,nx,c,()),m,l,()))=some (v,((g,rip,fl,nx,c',()),m,l',())))∧(MS.mk g m c' l').ok (k+1)∧I64 v:=by
 obtain⟨h1,h2⟩:=hs.go nx hv
 have h5:=fun rip fl=>goal_m hs hk hv rip fl nx
 have h3:((MS.mk g m c l).go nx x).2.g=g∧((MS.mk g m c l).go nx x).2.m=m:=by
  unfold MS.go
  split
  ·exact⟨rfl,rfl⟩
  ·exact(hs.rd nx (n:=8) rfl hv).2.2
 obtain⟨v,c',l',e⟩:=z5 h3.1 h3.2
 rw[e]at h1 h2
 refine⟨v,c',l',e,fun rip fl=>?_,h1,h2⟩
 have:=h5 rip fl
 rw[e]at this
 exact this
theorem ld_ex {g:List Int}{m:List Page}{c:Int}{l:List Acc}{k:Nat}(hs:(MS.mk g m c l).ok k)(hk:k≤1000){a:Int}(ha:I64 a){n:Nat}(hn:co (n:Int)=true):
  ∃v c' l',(MS.mk g m c l).ld a n=(v,⟨g,m,c',l'⟩)∧(∀rip fl nx,aM ((a,((n:Int),())),((g,rip,fl,nx,c,()),m,l,()))=some (v,((g,rip,fl,nx,c',()),m,l',())))∧(MS.mk g m c' l').ok (k+1)∧I64 v:=by
 obtain⟨h1,h2,h3,h4⟩:=hs.ld a n
 have h5:=fun rip fl nx=>BY hs hk ha hn rip fl nx
 obtain⟨v,c',l',e⟩:=z5 h3 h4
 rw[e]at h1 h2
 refine⟨v,c',l',e,fun rip fl nx=>?_,h1,h2⟩
 have:=h5 rip fl nx
 rw[e]at this
 exact this
theorem st_ex {g:List Int}{m:List Page}{c:Int}{l:List Acc}{k:Nat}(hs:(MS.mk g m c l).ok k)(hk:k≤1000){a:Int}(ha:I64 a){n:Nat}(hn:co (n:Int)=true)(v:Int):
  ∃m' c' l',(MS.mk g m c l).st a n v=⟨g,m',c',l'⟩∧(∀rip fl nx,aC ((a,((n:Int),(v,()))),((g,rip,fl,nx,c,()),m,l,()))=some ((),((g,rip,fl,nx,c',()),m',l',())))∧(MS.mk g m' c' l').ok (k+1):=by
 obtain⟨h1,h2⟩:=hs.st ha hn v
 have h5:=fun rip fl nx=>xH hs hk (v:=v) ha hn rip fl nx
 obtain⟨m',c',l',e⟩:∃m' c' l',(MS.mk g m c l).st a n v=⟨g,m',c',l'⟩:=by
  generalize (MS.mk g m c l).st a n v=r at h2
  obtain⟨g',m',c',l'⟩:=r
  cases h2
  exact⟨m',c',l',rfl⟩
 rw[e]at h1
 refine⟨m',c',l',e,fun rip fl nx=>?_,h1⟩
 have:=h5 rip fl nx
 rw[e]at this
 exact this
def za (n z:Nat):Nat:=if 20≤n∧n≤24 then 8 else z
def nT (n z:Nat)(a b fl:Int):Int×Int:=
 if n≤8∨n=10 then wj n z a b fl else if n=11∨n=12∨n=18∨n=19 then xm n z a fl
 else if 20≤n then i6 n z a (bZ b 1) fl else((qu n z a b fl).1,(qu n z a b fl).2.2)
def MS.rd0 (s:MS)(nx:Int)(o:Opd)(n:Nat):Int×MS:=if o.kind≠0 then s.rd nx o n else(0,s)
def MS.reck (s:MS)(nx fl:Int)(x:Ins)(n z:Nat):MS×Int:=
 let a:=s.rd nx x.dst z
 let b:=a.2.rd0 nx x.src (za n z)
 let r:=nT n z a.1 b.1 fl
 (if n≠8∧n≠10 then b.2.wr nx x.dst z r.1 else b.2,r.2)
theorem pC {x:Ins}{n z:Nat}(hx:ExV x n)(hn:n≤24)(hz:x.size=z)(hz':co (z:Int)=true):fC ((x,()),())=some ((za n z:Int),())∧sSz x n=(za n z:Int):=by
 have hf:=hx.fr.2 (by omega)
 have h0:=(dR hz').1
 unfold fC cJ sSz za
 dsimp only
 rw[hf,bc rfl,cf,aj,l5,aa,aa,hx.op,hz]
 dsimp only
 by_cases h:20≤n∧n≤24
 ·have hb:inB (n:Int) 20 24=true:=by unfold inB;simp;omega
  rw[hb,aI,aa,aI,if_pos h,if_pos h]
  exact⟨rfl,rfl⟩
 ·have hb:inB (n:Int) 20 24=false:=by unfold inB;simp;omega
  rw[hb,aj,aa,an (ar (by omega)),if_neg h,if_neg h,if_neg (by decide)]
  exact⟨rfl,rfl⟩
theorem Ek (n:Nat):gY (((n:Int),()),())=some (decide (1≤n∧n≤8∨n=10),()):=by
 unfold gY
 dsimp only
 rw[l5,aa]
 dsimp only
 have hb:inB (n:Int) 1 8=decide (1≤n∧n≤8):=by unfold inB;rw[Bool.eq_iff_iff];simp;omega
 have he:eqI (n:Int) 10=decide (n=10):=by unfold eqI;rw[Bool.eq_iff_iff];simp;omega
 rw[hb,he,AP,aa]
 congr 2
 rw[Bool.eq_iff_iff];simp
theorem Eo (n:Nat):gZ (((n:Int),()),())=some (decide (n=11∨n=12∨n=18∨n=19),()):=by
 unfold gZ
 dsimp only
 have he:∀j:Nat,eqI (n:Int) (j:Int)=decide (n=j):=fun j=>by unfold eqI;rw[Bool.eq_iff_iff];simp;omega
 have e1:=he 11
 have e2:=he 12
 have e3:=he 18
 have e4:=he 19
 rw[show((11:Nat):Int)=11 from rfl]at e1
 rw[show((12:Nat):Int)=12 from rfl]at e2
 rw[show((18:Nat):Int)=18 from rfl]at e3
 rw[show((19:Nat):Int)=19 from rfl]at e4
 rw[e1,e2,e3,e4,AP,aa,AP,aa,AP,aa]
 congr 2
 rw[Bool.eq_iff_iff];simp[or_assoc]
theorem wS (n:Nat):cJ (((n:Int),()),())=some (decide (20≤n∧n≤24),()):=by
 unfold cJ
 dsimp only
 rw[l5,aa]
 congr 2
 unfold inB;rw[Bool.eq_iff_iff];simp;omega
theorem rckV_ok {n z:Nat}{a b fl:Int}(hz:co (z:Int)=true)(ha:I64 a)(hI:I64 fl)(hf:bV fl=true):I64 (nT n z a b fl).1∧bV (nT n z a b fl).2=true∧I64 (nT n z a b fl).2:=by
 unfold nT
 split
 ·exact AF hz ha
 split
 ·exact Ct hz hI hf
 split
 ·exact vQ hz ha hI hf
 ·have:=tt (op:=n) (n:=z) (a:=a) (b:=b) hI hf
  exact⟨this.1,this.2.2.1,this.2.2.2⟩
theorem reck_m {g:List Int}{m:List Page}{c:Int}{l:List Acc}{k:Nat}(hs:(MS.mk g m c l).ok k)(hk:k+3≤1000){x:Ins}{n z:Nat}(hx:ExV x n)(hn:n≤8∨10≤n∧n≤12∨17≤n∧n≤24)(hz:x.size=z)
  {fl:Int} (hI:I64 fl) (hf:bV fl=true) (nx:Int):
  ∃g' m' c' l' fl',(MS.mk g m c l).reck nx fl x n z=(⟨g',m',c',l'⟩,fl')∧(∀rip,cc ((x,()),((g,rip,fl,nx,c,()),m,l,()))=some ((),((g',rip,fl',nx,c',()),m',l',())))∧(MS.mk g' m' c' l').ok (k+3)∧I64 fl'∧bV fl'=true:=by
 have hz':co (z:Int)=true:=by rw[←hz];exact hx.szs.1 (by omega)
 have hkd:=hx.kd.1 (by omega)
 have hdv:=hx.dv
 have hsv:=hx.sv
 obtain⟨hss,hss2⟩:=pC hx (by omega) hz hz'
 rw[hz]at hdv
 rw[hss2]at hsv
 have hzs:co (za n z:Int)=true:=by unfold za;split;rfl;exact hz'
 obtain⟨v1,c1,l1,e1,r1,ok1,I1⟩:=qK hs (by omega) hz' hdv nx
 have hb:∃v2 c2 l2,(MS.mk g m c1 l1).rd0 nx x.src (za n z)=(v2,⟨g,m,c2,l2⟩)∧(MS.mk g m c2 l2).ok (k+2)∧I64 v2∧(x.src.kind=0→v2=0∧c2=c1∧l2=l1)∧
   (x.src.kind≠0→∀rip fl,aq ((cZ x.src (),((za n z:Int),())),((g,rip,fl,nx,c1,()),m,l1,()))=some (v2,((g,rip,fl,nx,c2,()),m,l2,()))):=by
  unfold MS.rd0
  by_cases h0:x.src.kind=0
  ·rw[if_neg (by simpa using h0)]
   exact⟨0,c1,l1,rfl,ok1.mono (by omega),by unfold I64;omega,fun _=>⟨rfl,rfl,rfl⟩,fun h=>absurd h0 h⟩
  ·rw[if_pos h0]
   obtain⟨v2,c2,l2,e2,r2,ok2,I2⟩:=qK ok1 (by omega) hzs hsv nx
   exact⟨v2,c2,l2,e2,ok2,I2,fun h=>absurd h h0,fun _=>r2⟩
 obtain⟨v2,c2,l2,e2,ok2,I2,h20,h21⟩:=hb
 obtain⟨rI,rf,rfI⟩:=rckV_ok (n:=n) (b:=v2) hz' I1 hI hf
 have hw:∃g' m' c' l',(if n≠8∧n≠10 then(MS.mk g m c2 l2).wr nx x.dst z (nT n z v1 v2 fl).1 else(MS.mk g m c2 l2))=⟨g',m',c',l'⟩∧(MS.mk g' m' c' l').ok (k+3)∧
   (n≠8∧n≠10→∀rip fl',ap ((cZ x.dst (),((z:Int),((nT n z v1 v2 fl).1,()))),((g,rip,fl',nx,c2,()),m,l2,()))=some ((),((g',rip,fl',nx,c',()),m',l',())))∧
   (¬(n≠8∧n≠10)→g'=g∧m'=m∧c'=c2∧l'=l2):=by
  by_cases h:n≠8∧n≠10
  ·rw[if_pos h]
   obtain⟨g',m',c',l',e3,r3,ok3⟩:=rB ok2 (by omega) hz' hdv hkd nx rI
   exact⟨g',m',c',l',e3,ok3,fun _=>r3,fun g=>absurd h g⟩
  ·rw[if_neg h]
   exact⟨g,m,c2,l2,rfl,ok2.mono (by omega),fun g=>absurd g h,fun _=>⟨rfl,rfl,rfl,rfl⟩⟩
 obtain⟨g',m',c',l',e3,ok3,w1,w2⟩:=hw
 refine⟨g',m',c',l',(nT n z v1 v2 fl).2,?_,fun rip=>?_,ok3,rfI,rf⟩
 ·unfold MS.reck
  dsimp only
  rw[e1]
  dsimp only
  rw[e2]
  dsimp only
  rw[e3]
 unfold cc
 dsimp only
 rw[hz,r1,aa]
 dsimp only
 refine(Ret.bnd (Q:=fun y=>y=Sum.inl ((v1,(v2,())),((g,rip,fl,nx,c2,()),(m,(l2,((dT x ()),())))))) ?_ ?_).eq
 ·by_cases h0:x.src.kind=0
  ·obtain⟨rfl,rfl,rfl⟩:=h20 h0
   rw[bc h0,cf,aj]
   exact Ret.some rfl
  ·rw[ar h0,dw,aI,hss,aa,h21 h0,aa]
   exact Ret.some rfl
 rintro _ rfl
 rw[ag]
 dsimp only[dT,cZ]
 rw[hx.op,hz,Ek,aa]
 dsimp only
 refine Ret.bnd (Q:=fun y=>y=Sum.inl (((nT n z v1 v2 fl).1,()),((g,rip,(nT n z v1 v2 fl).2,nx,c2,()),(m,(l2,((dT x ()),())))))) ?_ ?_
 ·have ex:(((n:Int),(z:Int),x.cond,x.frm,x.dst.kind,x.dst.reg,x.dst.base,x.dst.index,x.dst.scale,x.dst.disp,x.dst.imm,x.src.kind,x.src.reg,x.src.base,x.src.index,x.src.scale,x.src.disp,x.src.imm,x.len,()):Int×Int×Int×Int×Int×Int×Int×Int×Int×Int×Int×Int×Int×Int×Int×Int×Int×Int×Int×Unit)=dT x ():=by
   rw[←hx.op,←hz];rfl
  unfold nT
  by_cases ha:n≤8∨n=10
  ·have h1:=hx.n1
   rw[decide_eq_true (by omega),aI,if_pos ha,alu_eq hz' I1 I2,aa]
   dsimp only
   exact Ret.some (by rw[ex])
  ·rw[decide_eq_false (by omega),aj,if_neg ha,Eo,aa]
   dsimp only
   refine Ret.bnd (Q:=fun y=>y=Sum.inl (((nT n z v1 v2 fl).1,()),((g,rip,(nT n z v1 v2 fl).2,nx,c2,()),(m,(l2,((dT x ()),())))))) ?_ ?_
   ·unfold nT
    rw[if_neg ha]
    by_cases h1:n=11∨n=12∨n=18∨n=19
    ·rw[decide_eq_true h1,aI,if_pos h1,one_eq hz' I1,aa]
     dsimp only
     exact Ret.some (by rw[ex])
    ·rw[decide_eq_false h1,aj,if_neg h1,wS,aa]
     dsimp only
     refine Ret.bnd (Q:=fun y=>y=Sum.inl (((nT n z v1 v2 fl).1,()),((g,rip,(nT n z v1 v2 fl).2,nx,c2,()),(m,(l2,((dT x ()),())))))) ?_ ?_
     ·unfold nT
      rw[if_neg ha,if_neg h1]
      by_cases h2:20≤n
      ·rw[decide_eq_true (by omega),aI,if_pos h2,show(1:Int)=((1:Nat):Int)from rfl,bP _ 1 rfl,aa,FG (by omega) hz' I1 hI hf,aa]
       dsimp only
       exact Ret.some (by rw[ex])
      ·rw[decide_eq_false (by omega),aj,if_neg h2,qv hz' I1 I2 hI hf,aa]
       dsimp only
       exact Ret.some (by rw[ex])
     ·rintro _ rfl
      rw[ag]
      exact Ret.some (by unfold nT;rw[if_neg ha,if_neg h1])
   ·rintro _ rfl
    rw[ag]
    exact Ret.some (by unfold nT;rw[if_neg ha])
 rintro _ rfl
 rw[ag]
 dsimp only[dT,cZ,cp7]
 rw[hx.op,hz]
 have hbr:br (aY (eqI (n:Int) 8)) (some (aY (eqI (n:Int) 10))) (some false)=some (decide (n≠8∧n≠10)):=by
  by_cases a8:n=8
  ·rw[bc (by omega),cf,aj,decide_eq_false (by omega)]
  ·rw[ar (by omega),dw,aI]
   by_cases a10:n=10
   ·rw[bc (by omega),cf,decide_eq_false (by omega)]
   ·rw[ar (by omega),dw,decide_eq_true (by omega)]
 rw[hbr,aa]
 by_cases h:n≠8∧n≠10
 ·rw[decide_eq_true h,aI]
  have hw:=w1 h rip (nT n z v1 v2 fl).2
  unfold cZ at hw
  rw[hw,aa]
  exact Ret.some rfl
 ·obtain⟨rfl,rfl,rfl,rfl⟩:=w2 h
  rw[decide_eq_false h,aj]
  exact Ret.some rfl
end
set_option linter.unusedSectionVars false
noncomputable section
def MS.flow (s:MS)(rip fl nx:Int)(x:Ins)(n:Nat):MS×Int:=
 if n=29 then((s.rd nx x.src 8).2.pu (s.rd nx x.src 8).1,rip)
 else if n=30 then(s.po.2.wr nx x.dst 8 s.po.1,rip)
 else if n=31 then((s.go nx x).2.pu nx,(s.go nx x).1)
 else if n=34 then(s.po.2,s.po.1)
 else if n=32 then((s.go nx x).2,(s.go nx x).1)
 else if n=33 then(if iF x.cond fl=true then((s.go nx x).2,(s.go nx x).1)else(s,rip))
 else if n=41 then({s.st (rg s.g 7) 1 (rg s.g 0)with g:=setA s.g 7 (aE .i64 (rg s.g 7) 1)},rip)
 else if n=42 then({(s.ld (rg s.g 6) 1).2.st (rg s.g 7) 1 (s.ld (rg s.g 6) 1).1 with g:=setA (setA s.g 6 (aE .i64 (rg s.g 6) 1)) 7 (aE .i64 (rg (setA s.g 6 (aE .i64 (rg s.g 6) 1)) 7) 1)},rip)
 else if n=38 then({s with code:=17},rip)
 else if n=43∨n=44 then({s with code:=18},rip)
 else(s,rip)
section
variable {g:List Int}{m:List Page}{c:Int}{l:List Acc}{k:Nat}(hs:(MS.mk g m c l).ok k)(hk:k+3≤1000){x:Ins}
include hs hk
theorem flow_29 (hx:ExV x 29)(rip fl nx:Int):∃g' m' c' l' rip',(MS.mk g m c l).flow rip fl nx x 29=(⟨g',m',c',l'⟩,rip')∧am ((x,()),((g,rip,fl,nx,c,()),m,l,()))=some ((),((g',rip',fl,nx,c',()),m',l',()))∧(MS.mk g' m' c' l').ok (k+3):=by
 unfold MS.flow am
 dsimp only
 have hop:=hx.op
 have hsv:=hx.sv
 rw[show sSz x 29=x.size from by unfold sSz;rw[if_neg (by decide),hx.fr.2 (by decide),if_neg (by decide)],hx.szs.2.2.1 (by decide)]at hsv
 obtain⟨v1,c1,l1,e1,r1,ok1,I1⟩:=qK hs (by omega) (n:=8) rfl hsv nx
 obtain⟨g',m',c',l',e2,r2,ok2⟩:=pu_ex ok1 (by omega) v1
 have r1':aq ((cZ x.src (),(8,())),((g,rip,fl,nx,c,()),m,l,()))=_:=r1 rip fl
 rw[if_pos rfl,e1,hop,bc (by omega),aI,r1',aa,r2,aa]
 exact⟨g',m',c',l',rip,by dsimp only;rw[e2],rfl,ok2.mono (by omega)⟩
theorem flow_30 (hx:ExV x 30)(rip fl nx:Int):∃g' m' c' l' rip',(MS.mk g m c l).flow rip fl nx x 30=(⟨g',m',c',l'⟩,rip')∧am ((x,()),((g,rip,fl,nx,c,()),m,l,()))=some ((),((g',rip',fl,nx,c',()),m',l',()))∧(MS.mk g' m' c' l').ok (k+3):=by
 unfold MS.flow am
 dsimp only
 have hop:=hx.op
 have hdv:=hx.dv
 rw[hx.szs.2.2.1 (by decide)]at hdv
 obtain⟨v1,g1,m1,c1,l1,e1,r1,ok1,I1⟩:=po_ex hs (by omega)
 obtain⟨g',m',c',l',e2,r2,ok2⟩:=rB ok1 (by omega) (n:=8) rfl hdv (hx.kd.1 (by decide)) nx I1
 have r2':ap ((cZ x.dst (),(8,(v1,()))),((g1,rip,fl,nx,c1,()),m1,l1,()))=_:=r2 rip fl
 rw[if_neg (by decide),if_pos rfl,e1,hop,ar (by omega),aj,bc (by omega),aI,r1,aa]
 dsimp only
 rw[r2',aa]
 exact⟨g',m',c',l',rip,by rw[e2],rfl,ok2.mono (by omega)⟩
theorem flow_31 (hx:ExV x 31)(rip fl nx:Int):∃g' m' c' l' rip',(MS.mk g m c l).flow rip fl nx x 31=(⟨g',m',c',l'⟩,rip')∧am ((x,()),((g,rip,fl,nx,c,()),m,l,()))=some ((),((g',rip',fl,nx,c',()),m',l',()))∧(MS.mk g' m' c' l').ok (k+3):=by
 unfold MS.flow am
 dsimp only
 have hop:=hx.op
 have hsv:=hx.sv
 rw[show sSz x 31=x.size from by unfold sSz;rw[if_neg (by decide),hx.fr.2 (by decide),if_neg (by decide)],hx.szs.2.2.1 (by decide)]at hsv
 obtain⟨v1,c1,l1,e1,r1,ok1,I1⟩:=go_ex hs (by omega) hsv nx
 obtain⟨g',m',c',l',e2,r2,ok2⟩:=pu_ex ok1 (by omega) nx
 rw[if_neg (by decide),if_neg (by decide),if_pos rfl,e1,hop,ar (by omega),aj,ar (by omega),aj,bc (by omega),aI,r1,aa]
 dsimp only
 rw[r2,aa]
 exact⟨g',m',c',l',v1,by rw[e2],rfl,ok2.mono (by omega)⟩
theorem flow_34 (hx:ExV x 34)(rip fl nx:Int):∃g' m' c' l' rip',(MS.mk g m c l).flow rip fl nx x 34=(⟨g',m',c',l'⟩,rip')∧am ((x,()),((g,rip,fl,nx,c,()),m,l,()))=some ((),((g',rip',fl,nx,c',()),m',l',()))∧(MS.mk g' m' c' l').ok (k+3):=by
 unfold MS.flow am
 dsimp only
 have hop:=hx.op
 obtain⟨v1,g1,m1,c1,l1,e1,r1,ok1,I1⟩:=po_ex hs (by omega)
 rw[if_neg (by decide),if_neg (by decide),if_neg (by decide),if_pos rfl,e1,hop,ar (by omega),aj,ar (by omega),aj,ar (by omega),aj,bc (by omega),aI,r1,aa]
 exact⟨g1,m1,c1,l1,v1,rfl,rfl,ok1.mono (by omega)⟩
theorem flow_32 (hx:ExV x 32)(rip fl nx:Int):∃g' m' c' l' rip',(MS.mk g m c l).flow rip fl nx x 32=(⟨g',m',c',l'⟩,rip')∧am ((x,()),((g,rip,fl,nx,c,()),m,l,()))=some ((),((g',rip',fl,nx,c',()),m',l',()))∧(MS.mk g' m' c' l').ok (k+3):=by
 unfold MS.flow am
 dsimp only
 have hop:=hx.op
 have hsv:=hx.sv
 rw[show sSz x 32=x.size from by unfold sSz;rw[if_neg (by decide),hx.fr.2 (by decide),if_neg (by decide)],hx.szs.2.2.1 (by decide)]at hsv
 obtain⟨v1,c1,l1,e1,r1,ok1,I1⟩:=go_ex hs (by omega) hsv nx
 rw[if_neg (by decide),if_neg (by decide),if_neg (by decide),if_neg (by decide),if_pos rfl,e1,hop,ar (by omega),aj,ar (by omega),aj,ar (by omega),aj,ar (by omega),aj,bc (by omega),aI,r1,aa]
 exact⟨g,m,c1,l1,v1,rfl,rfl,ok1.mono (by omega)⟩
theorem flow_33 (hx:ExV x 33)(rip fl nx:Int):∃g' m' c' l' rip',(MS.mk g m c l).flow rip fl nx x 33=(⟨g',m',c',l'⟩,rip')∧am ((x,()),((g,rip,fl,nx,c,()),m,l,()))=some ((),((g',rip',fl,nx,c',()),m',l',()))∧(MS.mk g' m' c' l').ok (k+3):=by
 unfold MS.flow am
 dsimp only
 have hop:=hx.op
 have hk3:=hx.kd.2.2.2.2.2.2.2.1 rfl
 have hgo:∀s:MS,s.go nx x=(aE .i64 nx x.src.imm,s):=fun s=>if_pos hk3
 have hg2:bw ((x,()),((g,rip,fl,nx,c,()),m,l,()))=some (aE .i64 nx x.src.imm,((g,rip,fl,nx,c,()),m,l,())):=by
  unfold bw
  dsimp only
  rw[bc hk3,aI]
 rw[if_neg (by decide),if_neg (by decide),if_neg (by decide),if_neg (by decide),if_neg (by decide),if_pos rfl,hgo,hop,ar (by omega),aj,ar (by omega),aj,ar (by omega),aj,ar (by omega),aj,ar (by omega),aj,bc (by omega),aI,sZ hx.c0 hx.c1,aa]
 dsimp only
 by_cases hh:iF x.cond fl=true
 ·rw[hh,aI,hg2,aa,if_pos rfl]
  exact⟨g,m,c,l,_,rfl,rfl,hs.mono (by omega)⟩
 ·rw[Bool.eq_false_iff.2 hh,aj,if_neg (by decide)]
  exact⟨g,m,c,l,_,rfl,rfl,hs.mono (by omega)⟩
theorem flow_41 (hx:ExV x 41)(rip fl nx:Int):∃g' m' c' l' rip',(MS.mk g m c l).flow rip fl nx x 41=(⟨g',m',c',l'⟩,rip')∧am ((x,()),((g,rip,fl,nx,c,()),m,l,()))=some ((),((g',rip',fl,nx,c',()),m',l',()))∧(MS.mk g' m' c' l').ok (k+3):=by
 unfold MS.flow am
 dsimp only
 have hop:=hx.op
 obtain⟨m',c',l',e1,r1,ok1⟩:=st_ex hs (by omega) (hs.g 7) (n:=1) rfl (rg g 0)
 have r1':aC ((aP g 7 (aB .i),(1,(aP g 0 (aB .i),()))),((g,rip,fl,nx,c,()),m,l,()))=_:=r1 rip fl nx
 rw[if_neg (by decide),if_neg (by decide),if_neg (by decide),if_neg (by decide),if_neg (by decide),if_neg (by decide),if_pos rfl,e1,hop,ar (by omega),aj,ar (by omega),aj,ar (by omega),aj,ar (by omega),aj,ar (by omega),aj,ar (by omega),aj,bc (by omega),aI,r1',aa]
 exact⟨_,m',c',l',rip,rfl,rfl,(ok1.setA (au _)).mono (by omega)⟩
theorem flow_42 (hx:ExV x 42)(rip fl nx:Int):∃g' m' c' l' rip',(MS.mk g m c l).flow rip fl nx x 42=(⟨g',m',c',l'⟩,rip')∧am ((x,()),((g,rip,fl,nx,c,()),m,l,()))=some ((),((g',rip',fl,nx,c',()),m',l',()))∧(MS.mk g' m' c' l').ok (k+3):=by
 unfold MS.flow am
 dsimp only
 have hop:=hx.op
 obtain⟨v1,c1,l1,e1,r1,ok1,I1⟩:=ld_ex hs (by omega) (hs.g 6) (n:=1) rfl
 obtain⟨m',c',l',e2,r2,ok2⟩:=st_ex ok1 (by omega) (hs.g 7) (n:=1) rfl v1
 have r1':aM ((aP g 6 (aB .i),(1,())),((g,rip,fl,nx,c,()),m,l,()))=_:=r1 rip fl nx
 have r2':aC ((aP g 7 (aB .i),(1,(v1,()))),((g,rip,fl,nx,c1,()),m,l1,()))=_:=r2 rip fl nx
 rw[if_neg (by decide),if_neg (by decide),if_neg (by decide),if_neg (by decide),if_neg (by decide),if_neg (by decide),if_neg (by decide),if_pos rfl,e1,hop,ar (by omega),aj,ar (by omega),aj,ar (by omega),aj,ar (by omega),aj,ar (by omega),aj,ar (by omega),aj,ar (by omega),aj,bc (by omega),aI,r1',aa]
 dsimp only
 rw[r2',aa,e2]
 exact⟨_,m',c',l',rip,rfl,rfl,((ok2.setA (au _)).setA (au _)).mono (by omega)⟩
theorem flow_38 (hx:ExV x 38)(rip fl nx:Int):∃g' m' c' l' rip',(MS.mk g m c l).flow rip fl nx x 38=(⟨g',m',c',l'⟩,rip')∧am ((x,()),((g,rip,fl,nx,c,()),m,l,()))=some ((),((g',rip',fl,nx,c',()),m',l',()))∧(MS.mk g' m' c' l').ok (k+3):=by
 unfold MS.flow am
 dsimp only
 have hop:=hx.op
 rw[if_neg (by decide),if_neg (by decide),if_neg (by decide),if_neg (by decide),if_neg (by decide),if_neg (by decide),if_neg (by decide),if_neg (by decide),if_pos rfl,hop,ar (by omega),aj,ar (by omega),aj,ar (by omega),aj,ar (by omega),aj,ar (by omega),aj,ar (by omega),aj,ar (by omega),aj,ar (by omega),aj,bc (by omega),aI]
 exact⟨g,m,17,l,rip,rfl,rfl,⟨hs.m,Nat.le_trans hs.l (by omega),hs.g⟩⟩
theorem flow_43 (hx:ExV x 43)(rip fl nx:Int):∃g' m' c' l' rip',(MS.mk g m c l).flow rip fl nx x 43=(⟨g',m',c',l'⟩,rip')∧am ((x,()),((g,rip,fl,nx,c,()),m,l,()))=some ((),((g',rip',fl,nx,c',()),m',l',()))∧(MS.mk g' m' c' l').ok (k+3):=by
 unfold MS.flow am
 dsimp only
 have hop:=hx.op
 rw[if_neg (by decide),if_neg (by decide),if_neg (by decide),if_neg (by decide),if_neg (by decide),if_neg (by decide),if_neg (by decide),if_neg (by decide),if_neg (by decide),if_pos (by decide),hop,ar (by omega),aj,ar (by omega),aj,ar (by omega),aj,ar (by omega),aj,ar (by omega),aj,ar (by omega),aj,ar (by omega),aj,ar (by omega),aj,ar (by omega),aj]
 rw[show eqI ((43:Nat):Int) 43=true from rfl,aI,aa,ag]
 exact⟨g,m,18,l,rip,rfl,rfl,⟨hs.m,Nat.le_trans hs.l (by omega),hs.g⟩⟩
theorem flow_44 (hx:ExV x 44)(rip fl nx:Int):∃g' m' c' l' rip',(MS.mk g m c l).flow rip fl nx x 44=(⟨g',m',c',l'⟩,rip')∧am ((x,()),((g,rip,fl,nx,c,()),m,l,()))=some ((),((g',rip',fl,nx,c',()),m',l',()))∧(MS.mk g' m' c' l').ok (k+3):=by
 unfold MS.flow am
 dsimp only
 have hop:=hx.op
 rw[if_neg (by decide),if_neg (by decide),if_neg (by decide),if_neg (by decide),if_neg (by decide),if_neg (by decide),if_neg (by decide),if_neg (by decide),if_neg (by decide),if_pos (by decide),hop,ar (by omega),aj,ar (by omega),aj,ar (by omega),aj,ar (by omega),aj,ar (by omega),aj,ar (by omega),aj,ar (by omega),aj,ar (by omega),aj,ar (by omega),aj]
 rw[show eqI ((44:Nat):Int) 43=false from rfl,aj,aa,ag,show eqI ((44:Nat):Int) 44=true from rfl]
 exact⟨g,m,18,l,rip,rfl,rfl,⟨hs.m,Nat.le_trans hs.l (by omega),hs.g⟩⟩
theorem flow_37 (hx:ExV x 37)(rip fl nx:Int):∃g' m' c' l' rip',(MS.mk g m c l).flow rip fl nx x 37=(⟨g',m',c',l'⟩,rip')∧am ((x,()),((g,rip,fl,nx,c,()),m,l,()))=some ((),((g',rip',fl,nx,c',()),m',l',()))∧(MS.mk g' m' c' l').ok (k+3):=by
 unfold MS.flow am
 dsimp only
 have hop:=hx.op
 rw[if_neg (by decide),if_neg (by decide),if_neg (by decide),if_neg (by decide),if_neg (by decide),if_neg (by decide),if_neg (by decide),if_neg (by decide),if_neg (by decide),if_neg (by decide),hop,ar (by omega),aj,ar (by omega),aj,ar (by omega),aj,ar (by omega),aj,ar (by omega),aj,ar (by omega),aj,ar (by omega),aj,ar (by omega),aj,ar (by omega),aj]
 rw[show eqI ((37:Nat):Int) 43=false from rfl,aj,aa,ag,show eqI ((37:Nat):Int) 44=false from rfl]
 exact⟨g,m,c,l,rip,rfl,rfl,hs.mono (by omega)⟩
end
end
set_option linter.unusedSectionVars false
set_option linter.unusedVariables false
noncomputable section
theorem CM {g:List Int}{r v:Int}{n:Nat}(hn:co (n:Int)=true)(h15:r≤15){α:Type}(Z:List Int→Option α):
  (br (leI 4 (n:Int)) (bnd (ae ((v,((n:Int),())),())) (fun x32=>Z (cF (eA 16 (aB .i) g) r x32.1))) (bnd (ae ((v,((n:Int),())),())) (fun x33=>(bnd (ae (((aP g r (aB .i)),((n:Int),())),())) (fun x34=>Z (cF (eA 16 (aB .i) g) r (aE .i64 (aP g r (aB .i)) (aZ .i64 x33.1 x34.1))))))))=Z (qT g r n v):=by
 unfold qT Go.Den.G.setA
 rw[if_neg (by omega),bP _ n hn,bP _ n hn,aa,aa,aa]
 by_cases h4:4≤n
 ·rw[af (fU (by omega)),if_pos h4]
 ·rw[an (jR (by omega)),if_neg h4]
theorem qd:aG ((0,()),())=some (false,()):=lD 0
theorem isHigh2:aG ((2,()),())=some (false,()):=lD 2
theorem si {g:List Int}{r:Int}{n:Nat}(h:¬16≤r):bZ (aP g r (aB .i)) n=jZ g r n:=by
 unfold jZ
 rw[if_neg h]
def MS.move (s:MS)(fl nx:Int)(x:Ins)(n z:Nat):MS:=
 if n=9 then(s.rd nx x.src z).2.wr nx x.dst z (s.rd nx x.src z).1
 else if n=28 then
  let a:=s.rd nx x.dst z
  let b:=a.2.rd nx x.src z
  (b.2.wr nx x.dst z b.1).wr nx x.src z a.1
 else if n=25 then s.wr nx x.dst z (mw s.g nx x.src)
 else if n=26 then(s.rd nx x.src x.frm.toNat).2.wr nx x.dst z (s.rd nx x.src x.frm.toNat).1
 else if n=27 then(s.rd nx x.src x.frm.toNat).2.wr nx x.dst z (sx (8*x.frm.toNat-1) (s.rd nx x.src x.frm.toNat).1)
 else if n=35 then s.wr nx x.dst 1 (if iF x.cond fl=true then 1 else 0)
 else if n=36 then
  let a:=s.rd nx x.src z
  let b:=if iF x.cond fl=true then a else a.2.rd nx x.dst z
  b.2.wr nx x.dst z b.1
 else if n=39 then {s with g:=qT s.g 0 z (sx (8*(z/2)-1) (jZ s.g 0 (z/2)))}
 else if n=40 then {s with g:=qT s.g 2 z (cA .i64 (sx (8*z-1) (jZ s.g 0 z)) 63)}
 else s
section
variable {g:List Int}{m:List Page}{c:Int}{l:List Acc}{k:Nat}(hs:(MS.mk g m c l).ok k)(hk:k+4≤1000){x:Ins}{z:Nat}
include hs hk
theorem move_9 (hx:ExV x 9)(hz:x.size=z)(rip fl nx:Int):∃g' m' c' l',(MS.mk g m c l).move fl nx x 9 z=⟨g',m',c',l'⟩∧az ((x,()),((g,rip,fl,nx,c,()),m,l,()))=some ((),((g',rip,fl,nx,c',()),m',l',()))∧(MS.mk g' m' c' l').ok (k+4):=by
 unfold MS.move az
 dsimp only
 have hop:=hx.op
 have hz':co (z:Int)=true:=by rw[←hz];exact hx.szs.1 (by decide)
 have hdv:=hx.dv
 rw[hz]at hdv
 have hsv:=hx.sv
 rw[show sSz x 9=x.size from by unfold sSz;rw[if_neg (by decide),hx.fr.2 (by decide),if_neg (by decide)],hz]at hsv
 obtain⟨v1,c1,l1,e1,r1,ok1,I1⟩:=qK hs (by omega) hz' hsv nx
 obtain⟨g',m',c',l',e2,r2,ok2⟩:=rB ok1 (by omega) hz' hdv (hx.kd.1 (by decide)) nx I1
 rw[if_pos rfl,e1,hop,hz,bc (by omega),aI,r1,aa]
 dsimp only
 rw[r2,aa]
 exact⟨g',m',c',l',e2,rfl,ok2.mono (by omega)⟩
theorem move_28 (hx:ExV x 28)(hz:x.size=z)(rip fl nx:Int):∃g' m' c' l',(MS.mk g m c l).move fl nx x 28 z=⟨g',m',c',l'⟩∧az ((x,()),((g,rip,fl,nx,c,()),m,l,()))=some ((),((g',rip,fl,nx,c',()),m',l',()))∧(MS.mk g' m' c' l').ok (k+4):=by
 unfold MS.move az
 dsimp only
 have hop:=hx.op
 have hz':co (z:Int)=true:=by rw[←hz];exact hx.szs.1 (by decide)
 have hdv:=hx.dv
 rw[hz]at hdv
 have hsv:=hx.sv
 rw[show sSz x 28=x.size from by unfold sSz;rw[if_neg (by decide),hx.fr.2 (by decide),if_neg (by decide)],hz]at hsv
 have hsk:x.src.kind=1∨x.src.kind=2:= .inl (hx.kd.2.1 rfl)
 obtain⟨v1,c1,l1,e1,r1,ok1,I1⟩:=qK hs (by omega) hz' hdv nx
 obtain⟨v2,c2,l2,e2,r2,ok2,I2⟩:=qK ok1 (by omega) hz' hsv nx
 obtain⟨g3,m3,c3,l3,e3,r3,ok3⟩:=rB ok2 (by omega) hz' hdv (hx.kd.1 (by decide)) nx I2
 obtain⟨g',m',c',l',e4,r4,ok4⟩:=rB ok3 (by omega) hz' hsv hsk nx I1
 rw[if_neg (by decide),if_pos rfl,e1,hop,hz,ar (by omega),aj,bc (by omega),aI,r1,aa]
 dsimp only
 rw[e2,r2,aa]
 dsimp only
 rw[e3,r3,aa]
 dsimp only
 rw[e4,r4,aa]
 exact⟨g',m',c',l',rfl,rfl,ok4⟩
theorem move_25 (hx:ExV x 25)(hz:x.size=z)(rip fl nx:Int):∃g' m' c' l',(MS.mk g m c l).move fl nx x 25 z=⟨g',m',c',l'⟩∧az ((x,()),((g,rip,fl,nx,c,()),m,l,()))=some ((),((g',rip,fl,nx,c',()),m',l',()))∧(MS.mk g' m' c' l').ok (k+4):=by
 unfold MS.move az
 dsimp only
 have hop:=hx.op
 have hz':co (z:Int)=true:=by rw[←hz];exact hx.szs.1 (by decide)
 have hdv:=hx.dv
 rw[hz]at hdv
 have hsv:=hx.sv
 have hb:=hsv.b (hx.kd.2.2.1 rfl).2
 obtain⟨g',m',c',l',e2,r2,ok2⟩:=rB hs (by omega) hz' hdv (hx.kd.1 (by decide)) nx (kM (g:=g) (nx:=nx) hsv)
 have hfin:∀a:Int,a=mw g nx x.src→(bnd (ap ((cZ x.dst (),((z:Int),(a,()))),((g,rip,fl,nx,c,()),m,l,()))) (fun x8=>(some ((),((x8.2.1.1,(rip,(fl,(nx,x8.2.1.2.2.2.2)))),x8.2.2)))))=some ((),((g',rip,fl,nx,c',()),m',l',())):=by
  rintro _ rfl
  rw[r2,aa]
 rw[if_neg (by decide),if_neg (by decide),if_pos rfl,hop,hz,ar (by omega),aj,ar (by omega),aj,bc (by omega),aI]
 refine⟨g',m',c',l',e2,?_,ok2.mono (by omega)⟩
 by_cases b16:x.src.base=16
 ·rw[bc b16,aI]
  by_cases hi:0≤x.src.index
  ·rw[af (fU hi),af (cI hi (by omega))]
   exact hfin _ (by unfold mw;dsimp only;rw[if_pos b16,if_pos hi])
  ·rw[an (jR hi)]
   exact hfin _ (by unfold mw;dsimp only;rw[if_pos b16,if_neg hi])
 ·rw[ar b16,aj]
  by_cases hb0:0≤x.src.base
  ·rw[af (fU hb0),af (cI hb0 (by omega))]
   by_cases hi:0≤x.src.index
   ·rw[af (fU hi),af (cI hi (by omega))]
    exact hfin _ (by unfold mw;dsimp only;rw[if_neg b16,if_pos hb0,if_pos hi])
   ·rw[an (jR hi)]
    exact hfin _ (by unfold mw;dsimp only;rw[if_neg b16,if_pos hb0,if_neg hi])
  ·rw[an (jR hb0)]
   by_cases hi:0≤x.src.index
   ·rw[af (fU hi),af (cI hi (by omega))]
    exact hfin _ (by unfold mw;dsimp only;rw[if_neg b16,if_neg hb0,if_pos hi])
   ·rw[an (jR hi)]
    exact hfin _ (by unfold mw;dsimp only;rw[if_neg b16,if_neg hb0,if_neg hi])
theorem move_26 (hx:ExV x 26)(hz:x.size=z)(rip fl nx:Int):∃g' m' c' l',(MS.mk g m c l).move fl nx x 26 z=⟨g',m',c',l'⟩∧az ((x,()),((g,rip,fl,nx,c,()),m,l,()))=some ((),((g',rip,fl,nx,c',()),m',l',()))∧(MS.mk g' m' c' l').ok (k+4):=by
 unfold MS.move az
 dsimp only
 have hop:=hx.op
 have hz':co (z:Int)=true:=by rw[←hz];exact hx.szs.1 (by decide)
 have hdv:=hx.dv
 rw[hz]at hdv
 obtain⟨f,hf,hf'⟩:=pp (hx.fr.1 (by decide))
 have hsv:=hx.sv
 rw[show sSz x 26=x.frm from by unfold sSz;rw[if_neg (by decide),if_pos (by rw[hf];have:=(dR hf').1;omega)],hf]at hsv
 have hfn:x.frm.toNat=f:=by rw[hf,Int.toNat_natCast]
 obtain⟨v1,c1,l1,e1,r1,ok1,I1⟩:=qK hs (by omega) hf' hsv nx
 obtain⟨g',m',c',l',e2,r2,ok2⟩:=rB ok1 (by omega) hz' hdv (hx.kd.1 (by decide)) nx I1
 rw[if_neg (by decide),if_neg (by decide),if_neg (by decide),if_pos rfl,hfn,e1,hop,hz,hf,ar (by omega),aj,ar (by omega),aj,ar (by omega),aj,bc (by omega),aI,r1,aa]
 dsimp only
 rw[r2,aa]
 exact⟨g',m',c',l',e2,rfl,ok2.mono (by omega)⟩
theorem move_27 (hx:ExV x 27)(hz:x.size=z)(rip fl nx:Int):∃g' m' c' l',(MS.mk g m c l).move fl nx x 27 z=⟨g',m',c',l'⟩∧az ((x,()),((g,rip,fl,nx,c,()),m,l,()))=some ((),((g',rip,fl,nx,c',()),m',l',()))∧(MS.mk g' m' c' l').ok (k+4):=by
 unfold MS.move az
 dsimp only
 have hop:=hx.op
 have hz':co (z:Int)=true:=by rw[←hz];exact hx.szs.1 (by decide)
 have hdv:=hx.dv
 rw[hz]at hdv
 obtain⟨f,hf,hf'⟩:=pp (hx.fr.1 (by decide))
 have hsv:=hx.sv
 rw[show sSz x 27=x.frm from by unfold sSz;rw[if_neg (by decide),if_pos (by rw[hf];have:=(dR hf').1;omega)],hf]at hsv
 have hfn:x.frm.toNat=f:=by rw[hf,Int.toNat_natCast]
 obtain⟨h1,h8⟩:=dR hf'
 obtain⟨v1,c1,l1,e1,r1,ok1,I1⟩:=qK hs (by omega) hf' hsv nx
 obtain⟨g',m',c',l',e2,r2,ok2⟩:=rB ok1 (by omega) hz' hdv (hx.kd.1 (by decide)) nx (gS (8*f-1) (by omega) v1)
 rw[if_neg (by decide),if_neg (by decide),if_neg (by decide),if_neg (by decide),if_pos rfl,hfn,e1,hop,hz,hf,ar (by omega),aj,ar (by omega),aj,ar (by omega),aj,ar (by omega),aj,bc (by omega),aI,r1,aa]
 dsimp only
 rw[lS _ _ (by omega) (by omega),aa,show(8*(f:Int)-1).toNat=8*f-1 by omega,r2,aa]
 exact⟨g',m',c',l',e2,rfl,ok2.mono (by omega)⟩
theorem move_35 (hx:ExV x 35)(hz:x.size=z)(rip fl nx:Int):∃g' m' c' l',(MS.mk g m c l).move fl nx x 35 z=⟨g',m',c',l'⟩∧az ((x,()),((g,rip,fl,nx,c,()),m,l,()))=some ((),((g',rip,fl,nx,c',()),m',l',()))∧(MS.mk g' m' c' l').ok (k+4):=by
 unfold MS.move az
 dsimp only
 have hop:=hx.op
 have hdv:=hx.dv
 rw[hx.szs.2.2.2.1 rfl]at hdv
 obtain⟨g',m',c',l',e2,r2,ok2⟩:=rB hs (by omega) (n:=1) rfl hdv (hx.kd.1 (by decide)) nx (v:=if iF x.cond fl=true then 1 else 0) (by split<;>(unfold I64;omega))
 have r2':ap ((cZ x.dst (),(1,(if iF x.cond fl=true then 1 else 0,()))),((g,rip,fl,nx,c,()),m,l,()))=_:=r2 rip fl
 rw[if_neg (by decide),if_neg (by decide),if_neg (by decide),if_neg (by decide),if_neg (by decide),if_pos rfl,hop,ar (by omega),aj,ar (by omega),aj,ar (by omega),aj,ar (by omega),aj,ar (by omega),aj,bc (by omega),aI,sZ hx.c0 hx.c1,aa]
 dsimp only
 rw[gU,aa,r2',aa]
 exact⟨g',m',c',l',e2,rfl,ok2.mono (by omega)⟩
theorem move_36 (hx:ExV x 36)(hz:x.size=z)(rip fl nx:Int):∃g' m' c' l',(MS.mk g m c l).move fl nx x 36 z=⟨g',m',c',l'⟩∧az ((x,()),((g,rip,fl,nx,c,()),m,l,()))=some ((),((g',rip,fl,nx,c',()),m',l',()))∧(MS.mk g' m' c' l').ok (k+4):=by
 unfold MS.move az
 dsimp only
 have hop:=hx.op
 have hz':co (z:Int)=true:=by rw[←hz];exact hx.szs.1 (by decide)
 have hdv:=hx.dv
 rw[hz]at hdv
 have hsv:=hx.sv
 rw[show sSz x 36=x.size from by unfold sSz;rw[if_neg (by decide),hx.fr.2 (by decide),if_neg (by decide)],hz]at hsv
 obtain⟨v1,c1,l1,e1,r1,ok1,I1⟩:=qK hs (by omega) hz' hsv nx
 have hb:∃v2 c2 l2,(if iF x.cond fl=true then(v1,MS.mk g m c1 l1)else(MS.mk g m c1 l1).rd nx x.dst z)=(v2,MS.mk g m c2 l2)∧(MS.mk g m c2 l2).ok (k+2)∧I64 v2∧
   (iF x.cond fl=true→v2=v1∧c2=c1∧l2=l1)∧(iF x.cond fl=false→∀rip fl,aq ((cZ x.dst (),((z:Int),())),((g,rip,fl,nx,c1,()),m,l1,()))=some (v2,((g,rip,fl,nx,c2,()),m,l2,()))):=by
  by_cases hh:iF x.cond fl=true
  ·rw[if_pos hh]
   exact⟨v1,c1,l1,rfl,ok1.mono (by omega),I1,fun _=>⟨rfl,rfl,rfl⟩,fun h=>by rw[hh]at h;cases h⟩
  ·rw[if_neg hh]
   obtain⟨v2,c2,l2,e2,r2,ok2,I2⟩:=qK ok1 (by omega) hz' hdv nx
   exact⟨v2,c2,l2,e2,ok2,I2,fun h=>absurd h hh,fun _=>r2⟩
 obtain⟨v2,c2,l2,e2,ok2,I2,t1,t2⟩:=hb
 obtain⟨g',m',c',l',e3,r3,ok3⟩:=rB ok2 (by omega) hz' hdv (hx.kd.1 (by decide)) nx I2
 rw[if_neg (by decide),if_neg (by decide),if_neg (by decide),if_neg (by decide),if_neg (by decide),if_neg (by decide),if_pos rfl,e1,hop,hz,ar (by omega),aj,ar (by omega),aj,ar (by omega),aj,ar (by omega),aj,ar (by omega),aj,ar (by omega),aj,bc (by omega),aI,r1,aa,sZ hx.c0 hx.c1,aa]
 dsimp only
 rw[e2]
 dsimp only
 refine⟨g',m',c',l',e3,?_,ok3.mono (by omega)⟩
 refine(Ret.bnd (Q:=fun y=>y=Sum.inl ((v2,()),((g,rip,fl,nx,c2,()),(m,(l2,((dT x ()),())))))) ?_ ?_).eq
 ·by_cases hh:iF x.cond fl=true
  ·obtain⟨rfl,rfl,rfl⟩:=t1 hh
   rw[hh,show aY true=false from rfl,aj]
   exact Ret.some rfl
  ·rw[Bool.eq_false_iff.2 hh,show aY false=true from rfl,aI,t2 (Bool.eq_false_iff.2 hh),aa]
   exact Ret.some rfl
 rintro _ rfl
 rw[ag]
 dsimp only[dT,cZ,cp7]
 have hw:=r3 rip fl
 unfold cZ at hw
 rw[hz,hw,aa]
 exact Ret.some rfl
theorem move_39 (hx:ExV x 39)(hz:x.size=z)(rip fl nx:Int):∃g' m' c' l',(MS.mk g m c l).move fl nx x 39 z=⟨g',m',c',l'⟩∧az ((x,()),((g,rip,fl,nx,c,()),m,l,()))=some ((),((g',rip,fl,nx,c',()),m',l',()))∧(MS.mk g' m' c' l').ok (k+4):=by
 unfold MS.move az
 dsimp only
 have hop:=hx.op
 have h3:z=2∨z=4∨z=8:=by have:=hx.szs.2.1 rfl;omega
 have hz':co (z:Int)=true:=by rcases h3 with rfl|rfl|rfl<;>rfl
 have hz2:co ((z/2:Nat):Int)=true:=by rcases h3 with rfl|rfl|rfl<;>rfl
 have hq:jS .i64 (z:Int) 2=((z/2:Nat):Int):=by rw[gQ (by omega) (by decide) (by omega)];omega
 obtain⟨h1,h8⟩:=dR hz2
 have hI:=gS (8*(z/2)-1) (by omega) (jZ g 0 (z/2))
 rw[if_neg (by decide),if_neg (by decide),if_neg (by decide),if_neg (by decide),if_neg (by decide),if_neg (by decide),if_neg (by decide),if_pos rfl,hop,hz,ar (by omega),aj,ar (by omega),aj,ar (by omega),aj,ar (by omega),aj,ar (by omega),aj,ar (by omega),aj,ar (by omega),aj,bc (by omega),aI,qd,aa]
 dsimp only
 rw[aj,hq,bP _ (z/2) hz2,aa]
 dsimp only
 rw[lS _ _ (by omega) (by omega),aa,aa,show(8*((z/2:Nat):Int)-1).toNat=8*(z/2)-1 by omega,si (by decide)]
 dsimp only
 rw[aj]
 refine⟨_,m,c,l,rfl,?_,⟨hs.m,Nat.le_trans hs.l (by omega),le (g:=g) (r:=0) hs.g hI hz'⟩⟩
 exact CM hz' (by decide) (fun g'=>some ((),((g',(rip,(fl,(nx,(c,()))))),(m,(l,())))))
theorem move_40 (hx:ExV x 40)(hz:x.size=z)(rip fl nx:Int):∃g' m' c' l',(MS.mk g m c l).move fl nx x 40 z=⟨g',m',c',l'⟩∧az ((x,()),((g,rip,fl,nx,c,()),m,l,()))=some ((),((g',rip,fl,nx,c',()),m',l',()))∧(MS.mk g' m' c' l').ok (k+4):=by
 unfold MS.move az
 dsimp only
 have hop:=hx.op
 have hz':co (z:Int)=true:=by rw[←hz];exact hx.szs.1 (by decide)
 have hdv:=hx.dv
 rw[hz]at hdv
 obtain⟨h1,h8⟩:=dR hz'
 have hI:=gS (8*z-1) (by omega) (jZ g 0 z)
 have hI2:I64 (cA .i64 (sx (8*z-1) (jZ g 0 z)) 63):=by rw[CQ hI];split<;>(unfold I64;omega)
 rw[if_neg (by decide),if_neg (by decide),if_neg (by decide),if_neg (by decide),if_neg (by decide),if_neg (by decide),if_neg (by decide),if_neg (by decide),if_pos rfl,hop,hz,ar (by omega),aj,ar (by omega),aj,ar (by omega),aj,ar (by omega),aj,ar (by omega),aj,ar (by omega),aj,ar (by omega),aj,ar (by omega),aj,bc (by omega),aI,qd,aa]
 dsimp only
 rw[aj,bP _ z hz',aa]
 dsimp only
 rw[lS _ _ (by omega) (by omega),aa,isHigh2,aa,show(8*(z:Int)-1).toNat=8*z-1 by omega,si (by decide)]
 dsimp only
 rw[aj]
 refine⟨_,m,c,l,rfl,?_,⟨hs.m,Nat.le_trans hs.l (by omega),le (g:=g) (r:=2) hs.g hI2 hz'⟩⟩
 exact CM hz' (by decide) (fun g'=>some ((),((g',(rip,(fl,(nx,(c,()))))),(m,(l,())))))
end
end
noncomputable section
theorem zero1 (v:Int):ae ((v,(1,())),())=some (bZ v 1,()):=bP v 1 rfl
theorem set_c0 {g:List Int}{v:Int}{n:Nat}(hn:co (n:Int)=true){α:Type}(Z:List Int→Option α):
  (br (leI 4 (n:Int)) (bnd (ae ((v,((n:Int),())),())) (fun x32=>Z (cF (eA 16 (aB .i) g) 0 x32.1))) (bnd (ae ((v,((n:Int),())),())) (fun x33=>(bnd (some (jZ g 0 n,())) (fun x34=>Z (cF (eA 16 (aB .i) g) 0 (aE .i64 (aP g 0 (aB .i)) (aZ .i64 x33.1 x34.1))))))))=Z (qT g 0 n v):=by
 have:=CM (g:=g) (r:=0) (v:=v) hn (by decide) Z
 rw[bP (aP g 0 (aB .i)) n hn,si (by decide)]at this
 exact this
def setF {α:Type}(g:List Int)(r:Int)(n:Nat)(v:Int)(Z:List Int→Option α):Option α:=
 (bnd (aG ((r,()),())) (fun x8=>(br x8.1 (br (inR (aZ .i64 r 16) 16) (bnd (ae ((v,(1,())),())) (fun x9=>Z (cF (eA 16 (aB .i) g) (aZ .i64 r 16) (ior .i64 (gC .i64 (aP g (aZ .i64 r 16) (aB .i)) 65280) (dF .i64 x9.1 8))))) none) (br (leI 4 (n:Int)) (bnd (ae ((v,((n:Int),())),())) (fun x10=>(br (inR r 16) (Z (cF (eA 16 (aB .i) g) r x10.1)) none))) (br (inR r 16) (br (inR r 16) (bnd (ae ((v,((n:Int),())),())) (fun x11=>(bnd (ae (((aP g r (aB .i)),((n:Int),())),())) (fun x12=>(br (inR r 16) (Z (cF (eA 16 (aB .i) g) r (aE .i64 (aP g r (aB .i)) (aZ .i64 x11.1 x12.1)))) none))))) none) none)))))
theorem xz {g:List Int}{r v:Int}{n:Nat}(hn:co (n:Int)=true)(hr:qM r n){α:Type}(Z:List Int→Option α):setF g r n v Z=Z (qT g r n v):=set_m hn hr Z
def upZ (z:Nat):Int:=if z=1 then 16 else 2
def MS.wide (s:MS)(fl nx:Int)(x:Ins)(n z:Nat):MS×Int:=
 let b:=s.rd nx x.src z
 if n=13∨n=14 then
  let r:=qu n z (jZ s.g 0 z) b.1 fl
  ({b.2 with g:=qT (qT s.g 0 z r.1) (upZ z) z r.2.1},r.2.2)
 else
  let r:=sI n z (jZ s.g (upZ z) z) (jZ s.g 0 z) b.1
  ({b.2 with g:=qT (qT s.g 0 z r.1) (upZ z) z r.2.1,code:=if r.2.2=false∧b.2.code=0 then 16 else b.2.code},fl)
theorem FV (z:Nat):ia (((z:Int),()),())=some (upZ z,()):=by
 unfold ia upZ
 dsimp only
 by_cases h:z=1
 ·rw[bc (by omega),aI,if_pos h]
 ·rw[ar (by omega),aj,if_neg h]
theorem oG (z:Nat):qM (upZ z) z:=by
 unfold upZ qM
 split<;>omega
theorem wide_m {g:List Int}{m:List Page}{c:Int}{l:List Acc}{k:Nat}(hs:(MS.mk g m c l).ok k)(hk:k+4≤1000){x:Ins}{n z:Nat}(hx:ExV x n)(hn:13≤n∧n≤16)(hz:x.size=z)
  {fl:Int} (hI:I64 fl) (hf:bV fl=true) (rip nx:Int):
  ∃g' m' c' l' fl',(MS.mk g m c l).wide fl nx x n z=(⟨g',m',c',l'⟩,fl')∧cC ((x,()),((g,rip,fl,nx,c,()),m,l,()))=some ((),((g',rip,fl',nx,c',()),m',l',()))∧(MS.mk g' m' c' l').ok (k+4)∧I64 fl'∧bV fl'=true:=by
 have hz':co (z:Int)=true:=by rw[←hz];exact hx.szs.1 (by omega)
 have hsv:=hx.sv
 rw[show sSz x n=x.size from by unfold sSz;rw[if_neg (by omega),hx.fr.2 (by omega),if_neg (by decide)],hz]at hsv
 obtain⟨v1,c1,l1,e1,r1,ok1,I1⟩:=qK hs (by omega) hz' hsv nx
 have hgI:∀r,I64 (jZ g r z):=fun r=>sW (g:=g) hs.g hz'
 unfold MS.wide cC
 dsimp only
 have hop:=hx.op
 rw[e1,hop,hz,r1,aa,FV,aa]
 dsimp only
 have hb:br (eqI (n:Int) 13) (some true) (some (eqI (n:Int) 14))=some (decide (n=13∨n=14)):=by
  by_cases a:n=13
  ·rw[bc (by omega),aI,decide_eq_true (by omega)]
  ·rw[ar (by omega),aj]
   by_cases b:n=14
   ·rw[bc (by omega),decide_eq_true (by omega)]
   ·rw[ar (by omega),decide_eq_false (by omega)]
 rw[hb,aa]
 by_cases hm:n=13∨n=14
 ·rw[decide_eq_true hm,aI,qd,aa,if_pos hm]
  dsimp only
  rw[aj,bP _ z hz',aa,si (by decide)]
  dsimp only
  rw[qv hz' (hgI 0) I1 hI hf,aa,aa]
  dsimp only
  rw[aj]
  obtain⟨o1,o2,o3,o4⟩:=tt (op:=n) (n:=z) (a:=jZ g 0 z) (b:=v1) hI hf
  obtain⟨p,hp⟩:∃p,p=qu n z (jZ g 0 z) v1 fl:=⟨_,rfl⟩
  rw[←hp]at o1 o2 o3 o4⊢
  obtain⟨lo,hi,f'⟩:=p
  clear hp
  dsimp only at o1 o2 o3 o4⊢
  refine⟨_,m,c1,l1,f',rfl,?_,⟨ok1.m,Nat.le_trans ok1.l (by omega),le (g:=qT g 0 z lo) (le (g:=g) hs.g o1 hz') o2 hz'⟩,o4,o3⟩
  exact(set_c0 (g:=g) (v:=lo) hz' (fun g'=>setF g' (upZ z) z hi (fun g''=>some ((),((g'',(rip,(f',(nx,(c1,()))))),(m,(l1,()))))))).trans (xz hz' (oG z) _)
 ·rw[decide_eq_false hm,aj,if_neg hm]
  obtain⟨o1,o2⟩:=yi (op:=n) (n:=z) (hi:=jZ g (upZ z) z) (lo:=jZ g 0 z) (d:=v1)
  have hd:=A4 (op:=n) (n:=z) (hi:=jZ g (upZ z) z) (lo:=jZ g 0 z) (d:=v1) hz' (hgI _) (hgI _) I1
  obtain⟨p,hp⟩:∃p,p=sI n z (jZ g (upZ z) z) (jZ g 0 z) v1:=⟨_,rfl⟩
  rw[←hp]at o1 o2 hd⊢
  obtain⟨q,r,ok⟩:=p
  clear hp
  dsimp only at o1 o2 hd⊢
  obtain⟨c2,hc2⟩:∃c2,c2=if ok=false∧c1=0 then 16 else c1:=⟨_,rfl⟩
  rw[←hc2]
  refine⟨_,m,c2,l1,fl,rfl,?_,⟨ok1.m,Nat.le_trans ok1.l (by omega),le (g:=qT g 0 z q) (le (g:=g) hs.g o1 hz') o2 hz'⟩,hI,hf⟩
  have hbr:br (aY ok) (some (eqI c1 0)) (some false)=some (decide (ok=false∧c1=0)):=by
   cases ok with
   |true=>rfl
   |false=>rw[show aY false=true from rfl,aI];unfold eqI;simp only[true_and]
  rw[lD,aa]
  dsimp only
  have hget:jZ g (upZ z) z=if z=1 then bZ (cA .i64 (aP g 0 (aB .i)) 8) 1 else bZ (aP g 2 (aB .i)) z:=by
   unfold jZ upZ
   by_cases h:z=1
   ·rw[if_pos h,if_pos h,if_pos (by decide)];rfl
   ·rw[if_neg h,if_neg h,if_neg (by decide)]
  by_cases h1:z=1
  ·rw[if_pos h1]at hget
   have hu:upZ z=16:=if_pos h1
   have hhi:decide (16≤upZ z∧upZ z≤19)=true:=by rw[hu];decide
   rw[hhi,aI,af (show inR (aZ .i64 (upZ z) 16) 16=true by rw[hu];rfl),show aZ .i64 (upZ z) 16=0 by rw[hu];rfl,zero1 (cA .i64 (aP g 0 (aB .i)) 8),aa,←hget]
   dsimp only
   rw[qd,aa]
   dsimp only
   rw[aj,bP _ z hz',aa,si (r:=0) (by decide)]
   dsimp only
   rw[hd,aa]
   dsimp only
   rw[hbr,aa]
   refine(Ret.bnd (Q:=fun y=>y=Sum.inl ((upZ z,(q,(r,()))),((g,(rip,(fl,(nx,(c2,()))))),(m,(l1,((dT x ()),())))))) ?_ ?_).eq
   ·by_cases hcc:ok=false∧c1=0
    ·rw[decide_eq_true hcc,aI,hc2,if_pos hcc]
     exact Ret.some rfl
    ·rw[decide_eq_false hcc,aj,hc2,if_neg hcc]
     exact Ret.some rfl
   rintro _ rfl
   rw[ag]
   dsimp only[dT,cZ]
   rw[aa,hz]
   dsimp only
   rw[aj]
   refine Ret.of_eq ((CM (g:=g) (r:=0) (v:=q) hz' (by decide) (fun g'=>setF g' (upZ z) z r (fun g''=>some ((),((g'',(rip,(fl,(nx,(c2,()))))),(m,(l1,()))))))).trans (xz hz' (oG z) _)) rfl
  ·rw[if_neg h1]at hget
   have hu:upZ z=2:=if_neg h1
   have hhi:decide (16≤upZ z∧upZ z≤19)=false:=by rw[hu];decide
   rw[hhi,aj,af (show inR (upZ z) 16=true by rw[hu];rfl),bP (aP g (upZ z) (aB .i)) z hz',aa,show bZ (aP g (upZ z) (aB .i)) z=jZ g (upZ z) z by rw[hget,hu]]
   dsimp only
   rw[qd,aa]
   dsimp only
   rw[aj,bP _ z hz',aa,si (r:=0) (by decide)]
   dsimp only
   rw[hd,aa]
   dsimp only
   rw[hbr,aa]
   refine(Ret.bnd (Q:=fun y=>y=Sum.inl ((upZ z,(q,(r,()))),((g,(rip,(fl,(nx,(c2,()))))),(m,(l1,((dT x ()),())))))) ?_ ?_).eq
   ·by_cases hcc:ok=false∧c1=0
    ·rw[decide_eq_true hcc,aI,hc2,if_pos hcc]
     exact Ret.some rfl
    ·rw[decide_eq_false hcc,aj,hc2,if_neg hcc]
     exact Ret.some rfl
   rintro _ rfl
   rw[ag]
   dsimp only[dT,cZ]
   rw[aa,hz]
   dsimp only
   rw[aj]
   refine Ret.of_eq ((CM (g:=g) (r:=0) (v:=q) hz' (by decide) (fun g'=>setF g' (upZ z) z r (fun g''=>some ((),((g'',(rip,(fl,(nx,(c2,()))))),(m,(l1,()))))))).trans (xz hz' (oG z) _)) rfl
end
noncomputable section
def mvB (n:Nat):Bool:=decide (n=9∨n=28∨n=25∨n=26∨n=27∨n=35∨n=36∨n=39∨n=40)
def wdB (n:Nat):Bool:=decide (n=13∨n=14∨n=15∨n=16)
def fwB (n:Nat):Bool:=decide (n=29∨n=30∨n=31∨n=34∨n=32∨n=33∨n=41∨n=42∨n=38∨n=43∨n=44∨n=37)
def exM (g:List Int)(rip fl:Int)(m:List Page)(x:Ins)(n z:Nat):MS×Int×Int:=
 let nx:=aE .i64 rip x.len
 let s:MS:=⟨g,m,0,[]⟩
 if mvB n=true then(s.move fl nx x n z,nx,fl)
 else if wdB n=true then((s.wide fl nx x n z).1,nx,(s.wide fl nx x n z).2)
 else if fwB n=true then((s.flow nx fl nx x n).1,(s.flow nx fl nx x n).2,fl)
 else((s.reck nx fl x n z).1,nx,(s.reck nx fl x n z).2)
def exR (g:List Int)(rip fl:Int)(m:List Page)(r:MS×Int×Int):((List Int×Int×Int×Unit)×Unit×Int×Unit)×List Page×List Acc×Unit:=
 if r.1.code≠0 then(((g,rip,fl,()),(),r.1.code,()),m,r.1.l,())else(((r.1.g,r.2.1,r.2.2,()),(),0,()),r.1.m,r.1.l,())
abbrev exT (g:List Int)(rip fl:Int)(m:List Page)(x:Ins):(List Int×Int×Int×Unit)×(List Page×Unit)×(Int×Int×Int×Int×Int×Int×Int×Int×Int×Int×Int×Int×Int×Int×Int×Int×Int×Int×Int×Unit)×(List Int×Int×Int×Unit)×Unit×TM:=
 (((g,(rip,(fl,()))):List Int×Int×Int×Unit),((m,()),((dT x ()),((([]:List Int),(0,(0,()))),((),((g,(aE .i64 rip x.len,(fl,(aE .i64 rip x.len,(0,()))))),(m,(([]:List Acc),()))))))))
theorem exec_m {g:List Int}{rip fl:Int}{m:List Page}{x:Ins}{n z:Nat}(hm:MemT m)(hg:jf g)(hI:I64 fl)(hf:bV fl=true)(hx:ExV x n)(hz:x.size=z):
  iJ (((g,(rip,(fl,()))),((m,()),(x,()))),())=some (exR g rip fl m (exM g rip fl m x n z))∧(exM g rip fl m x n z).1.ok 4∧bV (exM g rip fl m x n z).2.2=true∧I64 (exM g rip fl m x n z).2.2:=by
 have hs:(MS.mk g m 0 []).ok 0:=⟨hm,Nat.le_refl 0,hg⟩
 have hop:=hx.op
 have h1:=hx.n1
 have h2:=hx.n2
 have Bz:(wQ (dT x ()))=x:=rfl
 have key:∃g' m' c' l' rip' fl',exM g rip fl m x n z=(⟨g',m',c',l'⟩,rip',fl')∧(MS.mk g' m' c' l').ok 4∧bV fl'=true∧I64 fl'∧
   (mvB n=true→rip'=aE .i64 rip x.len∧fl'=fl∧az ((x,()),((g,(aE .i64 rip x.len,(fl,(aE .i64 rip x.len,(0,()))))),(m,(([]:List Acc),()))))=some ((),((g',(aE .i64 rip x.len,(fl,(aE .i64 rip x.len,(c',()))))),(m',(l',())))))∧
   (mvB n=false→wdB n=true→rip'=aE .i64 rip x.len∧cC ((x,()),((g,(aE .i64 rip x.len,(fl,(aE .i64 rip x.len,(0,()))))),(m,(([]:List Acc),()))))=some ((),((g',(aE .i64 rip x.len,(fl',(aE .i64 rip x.len,(c',()))))),(m',(l',())))))∧
   (mvB n=false→wdB n=false→fwB n=true→fl'=fl∧am ((x,()),((g,(aE .i64 rip x.len,(fl,(aE .i64 rip x.len,(0,()))))),(m,(([]:List Acc),()))))=some ((),((g',(rip',(fl,(aE .i64 rip x.len,(c',()))))),(m',(l',())))))∧
   (mvB n=false→wdB n=false→fwB n=false→rip'=aE .i64 rip x.len∧cc ((x,()),((g,(aE .i64 rip x.len,(fl,(aE .i64 rip x.len,(0,()))))),(m,(([]:List Acc),()))))=some ((),((g',(aE .i64 rip x.len,(fl',(aE .i64 rip x.len,(c',()))))),(m',(l',()))))):=by
  unfold exM
  dsimp only
  cases hmv:mvB n with
  |true=>
   rw[if_pos rfl]
   have hn:=of_decide_eq_true hmv
   have hmove:∃g' m' c' l',(MS.mk g m 0 []).move fl (aE .i64 rip x.len) x n z=⟨g',m',c',l'⟩∧az ((x,()),((g,aE .i64 rip x.len,fl,aE .i64 rip x.len,0,()),m,[],()))=some ((),((g',aE .i64 rip x.len,fl,aE .i64 rip x.len,c',()),m',l',()))∧(MS.mk g' m' c' l').ok (0+4):=by
    rcases hn with rfl|rfl|rfl|rfl|rfl|rfl|rfl|rfl|rfl
    ·exact move_9 hs (by decide) hx hz _ fl _
    ·exact move_28 hs (by decide) hx hz _ fl _
    ·exact move_25 hs (by decide) hx hz _ fl _
    ·exact move_26 hs (by decide) hx hz _ fl _
    ·exact move_27 hs (by decide) hx hz _ fl _
    ·exact move_35 hs (by decide) hx hz _ fl _
    ·exact move_36 hs (by decide) hx hz _ fl _
    ·exact move_39 hs (by decide) hx hz _ fl _
    ·exact move_40 hs (by decide) hx hz _ fl _
   obtain⟨g',m',c',l',e,r,ok⟩:=hmove
   exact⟨g',m',c',l',_,fl,by rw[e],ok,hf,hI,fun _=>⟨rfl,rfl,r⟩,(fun h=>by cases h),(fun h=>by cases h),(fun h=>by cases h)⟩
  |false=>
   rw[if_neg (by decide)]
   cases hwd:wdB n with
   |true=>
    rw[if_pos rfl]
    have hn:=of_decide_eq_true hwd
    obtain⟨g',m',c',l',fl',e,r,ok,fI,ff⟩:=wide_m hs (by decide) hx (by omega) hz hI hf (aE .i64 rip x.len) (aE .i64 rip x.len)
    exact⟨g',m',c',l',_,fl',by rw[e],ok,ff,fI,(fun h=>by cases h),fun _ _=>⟨rfl,r⟩,(fun _ h=>by cases h),(fun _ h=>by cases h)⟩
   |false=>
    rw[if_neg (by decide)]
    cases hfw:fwB n with
    |true=>
     rw[if_pos rfl]
     have hn:=of_decide_eq_true hfw
     have hflow:∃g' m' c' l' rip',(MS.mk g m 0 []).flow (aE .i64 rip x.len) fl (aE .i64 rip x.len) x n=(⟨g',m',c',l'⟩,rip')∧am ((x,()),((g,aE .i64 rip x.len,fl,aE .i64 rip x.len,0,()),m,[],()))=some ((),((g',rip',fl,aE .i64 rip x.len,c',()),m',l',()))∧(MS.mk g' m' c' l').ok (0+3):=by
      rcases hn with rfl|rfl|rfl|rfl|rfl|rfl|rfl|rfl|rfl|rfl|rfl|rfl
      ·exact flow_29 hs (by decide) hx _ fl _
      ·exact flow_30 hs (by decide) hx _ fl _
      ·exact flow_31 hs (by decide) hx _ fl _
      ·exact flow_34 hs (by decide) hx _ fl _
      ·exact flow_32 hs (by decide) hx _ fl _
      ·exact flow_33 hs (by decide) hx _ fl _
      ·exact flow_41 hs (by decide) hx _ fl _
      ·exact flow_42 hs (by decide) hx _ fl _
      ·exact flow_38 hs (by decide) hx _ fl _
      ·exact flow_43 hs (by decide) hx _ fl _
      ·exact flow_44 hs (by decide) hx _ fl _
      ·exact flow_37 hs (by decide) hx _ fl _
     obtain⟨g',m',c',l',rip',e,r,ok⟩:=hflow
     exact⟨g',m',c',l',rip',fl,by rw[e],ok.mono (by decide),hf,hI,(fun h=>by cases h),(fun _ h=>by cases h),fun _ _ _=>⟨rfl,r⟩,(fun _ _ h=>by cases h)⟩
    |false=>
     rw[if_neg (by decide)]
     have n1:=of_decide_eq_false hmv
     have n2:=of_decide_eq_false hwd
     have n3:=of_decide_eq_false hfw
     obtain⟨g',m',c',l',fl',e,r,ok,fI,ff⟩:=reck_m hs (by decide) hx (by omega) hz hI hf (aE .i64 rip x.len)
     exact⟨g',m',c',l',_,fl',by rw[e],ok.mono (by decide),ff,fI,(fun h=>by cases h),(fun _ h=>by cases h),(fun _ _ h=>by cases h),fun _ _ _=>⟨rfl,r _⟩⟩
 obtain⟨g',m',c',l',rip',fl',e,ok,ff,fI,k1,k2,k3,k4⟩:=key
 rw[e]
 refine⟨?_,ok,ff,fI⟩
 unfold iJ
 dsimp only
 rw[pL m (by have:=hm.len;omega),aa,hop]
 dsimp only
 refine(Ret.bnd (Q:=fun y=>y=Sum.inl (((n:Int),(mvB n,())),exT g rip fl m x)) ?_ ?_).eq
 ·by_cases h9:n=9
  ·rw[bc (by omega),aI,show mvB n=true from decide_eq_true (by omega)]
   exact Ret.some rfl
  rw[ar (by omega),aj]
  refine Ret.bnd (Q:=fun y=>y=Sum.inl (((n:Int),(mvB n,())),exT g rip fl m x)) ?_ (by rintro _ rfl;rw[ag];exact Ret.some rfl)
  by_cases h28:n=28
  ·rw[bc (by omega),aI,show mvB n=true from decide_eq_true (by omega)]
   exact Ret.some rfl
  rw[ar (by omega),aj]
  refine Ret.bnd (Q:=fun y=>y=Sum.inl (((n:Int),(mvB n,())),exT g rip fl m x)) ?_ (by rintro _ rfl;rw[ag];exact Ret.some rfl)
  by_cases h25:n=25
  ·rw[bc (by omega),aI,show mvB n=true from decide_eq_true (by omega)]
   exact Ret.some rfl
  rw[ar (by omega),aj]
  refine Ret.bnd (Q:=fun y=>y=Sum.inl (((n:Int),(mvB n,())),exT g rip fl m x)) ?_ (by rintro _ rfl;rw[ag];exact Ret.some rfl)
  by_cases h26:n=26
  ·rw[bc (by omega),aI,show mvB n=true from decide_eq_true (by omega)]
   exact Ret.some rfl
  rw[ar (by omega),aj]
  refine Ret.bnd (Q:=fun y=>y=Sum.inl (((n:Int),(mvB n,())),exT g rip fl m x)) ?_ (by rintro _ rfl;rw[ag];exact Ret.some rfl)
  by_cases h27:n=27
  ·rw[bc (by omega),aI,show mvB n=true from decide_eq_true (by omega)]
   exact Ret.some rfl
  rw[ar (by omega),aj]
  refine Ret.bnd (Q:=fun y=>y=Sum.inl (((n:Int),(mvB n,())),exT g rip fl m x)) ?_ (by rintro _ rfl;rw[ag];exact Ret.some rfl)
  by_cases h35:n=35
  ·rw[bc (by omega),aI,show mvB n=true from decide_eq_true (by omega)]
   exact Ret.some rfl
  rw[ar (by omega),aj]
  refine Ret.bnd (Q:=fun y=>y=Sum.inl (((n:Int),(mvB n,())),exT g rip fl m x)) ?_ (by rintro _ rfl;rw[ag];exact Ret.some rfl)
  by_cases h36:n=36
  ·rw[bc (by omega),aI,show mvB n=true from decide_eq_true (by omega)]
   exact Ret.some rfl
  rw[ar (by omega),aj]
  refine Ret.bnd (Q:=fun y=>y=Sum.inl (((n:Int),(mvB n,())),exT g rip fl m x)) ?_ (by rintro _ rfl;rw[ag];exact Ret.some rfl)
  by_cases h39:n=39
  ·rw[bc (by omega),aI,show mvB n=true from decide_eq_true (by omega)]
   exact Ret.some rfl
  rw[ar (by omega),aj]
  rw[show eqI (n:Int) 40=mvB n from by unfold eqI;unfold mvB;rw[Bool.eq_iff_iff,decide_eq_true_eq,decide_eq_true_eq];omega]
  exact Ret.some rfl
 rintro _ rfl
 rw[ag]
 dsimp only[d6,p6,exT]
 rw[Bz]
 refine Ret.bnd (Q:=fun y=>y=Sum.inl ((),(((g,(rip,(fl,()))):List Int×Int×Int×Unit),((m,()),((([]:List Int),(0,(0,()))),((),((g',(rip',(fl',(aE .i64 rip x.len,(c',()))))),(m',(l',()))))))))) ?_ ?_
 ·cases hmv:mvB n with
  |true=>
   obtain⟨rfl,rfl,r⟩:=k1 hmv
   rw[aI,r,aa]
   exact Ret.some rfl
  |false=>
   rw[aj]
   refine Ret.bnd (Q:=fun y=>y=Sum.inl (((n:Int),(wdB n,())),exT g rip fl m x)) ?_ ?_
   ·by_cases h13:n=13
    ·rw[bc (by omega),aI,show wdB n=true from decide_eq_true (by omega)]
     exact Ret.some rfl
    rw[ar (by omega),aj]
    refine Ret.bnd (Q:=fun y=>y=Sum.inl (((n:Int),(wdB n,())),exT g rip fl m x)) ?_ (by rintro _ rfl;rw[ag];exact Ret.some rfl)
    by_cases h14:n=14
    ·rw[bc (by omega),aI,show wdB n=true from decide_eq_true (by omega)]
     exact Ret.some rfl
    rw[ar (by omega),aj]
    refine Ret.bnd (Q:=fun y=>y=Sum.inl (((n:Int),(wdB n,())),exT g rip fl m x)) ?_ (by rintro _ rfl;rw[ag];exact Ret.some rfl)
    by_cases h15:n=15
    ·rw[bc (by omega),aI,show wdB n=true from decide_eq_true (by omega)]
     exact Ret.some rfl
    rw[ar (by omega),aj]
    rw[show eqI (n:Int) 16=wdB n from by unfold eqI;unfold wdB;rw[Bool.eq_iff_iff,decide_eq_true_eq,decide_eq_true_eq];omega]
    exact Ret.some rfl
   rintro _ rfl
   rw[ag]
   dsimp only[d6,p6,exT]
   rw[Bz]
   refine Ret.bnd (Q:=fun y=>y=Sum.inl ((),(((g,(rip,(fl,()))):List Int×Int×Int×Unit),((m,()),((([]:List Int),(0,(0,()))),((),((g',(rip',(fl',(aE .i64 rip x.len,(c',()))))),(m',(l',()))))))))) ?_ (by rintro _ rfl;rw[ag];exact Ret.some rfl)
   cases hwd:wdB n with
   |true=>
    obtain⟨rfl,r⟩:=k2 hmv hwd
    rw[aI,r,aa]
    exact Ret.some rfl
   |false=>
    rw[aj]
    refine Ret.bnd (Q:=fun y=>y=Sum.inl ((fwB n,()),exT g rip fl m x)) ?_ ?_
    ·by_cases h29:n=29
     ·rw[bc (by omega),aI,show fwB n=true from decide_eq_true (by omega)]
      exact Ret.some rfl
     rw[ar (by omega),aj]
     refine Ret.bnd (Q:=fun y=>y=Sum.inl ((fwB n,()),exT g rip fl m x)) ?_ (by rintro _ rfl;rw[ag];exact Ret.some rfl)
     by_cases h30:n=30
     ·rw[bc (by omega),aI,show fwB n=true from decide_eq_true (by omega)]
      exact Ret.some rfl
     rw[ar (by omega),aj]
     refine Ret.bnd (Q:=fun y=>y=Sum.inl ((fwB n,()),exT g rip fl m x)) ?_ (by rintro _ rfl;rw[ag];exact Ret.some rfl)
     by_cases h31:n=31
     ·rw[bc (by omega),aI,show fwB n=true from decide_eq_true (by omega)]
      exact Ret.some rfl
     rw[ar (by omega),aj]
     refine Ret.bnd (Q:=fun y=>y=Sum.inl ((fwB n,()),exT g rip fl m x)) ?_ (by rintro _ rfl;rw[ag];exact Ret.some rfl)
     by_cases h34:n=34
     ·rw[bc (by omega),aI,show fwB n=true from decide_eq_true (by omega)]
      exact Ret.some rfl
     rw[ar (by omega),aj]
     refine Ret.bnd (Q:=fun y=>y=Sum.inl ((fwB n,()),exT g rip fl m x)) ?_ (by rintro _ rfl;rw[ag];exact Ret.some rfl)
     by_cases h32:n=32
     ·rw[bc (by omega),aI,show fwB n=true from decide_eq_true (by omega)]
      exact Ret.some rfl
     rw[ar (by omega),aj]
     refine Ret.bnd (Q:=fun y=>y=Sum.inl ((fwB n,()),exT g rip fl m x)) ?_ (by rintro _ rfl;rw[ag];exact Ret.some rfl)
     by_cases h33:n=33
     ·rw[bc (by omega),aI,show fwB n=true from decide_eq_true (by omega)]
      exact Ret.some rfl
     rw[ar (by omega),aj]
     refine Ret.bnd (Q:=fun y=>y=Sum.inl ((fwB n,()),exT g rip fl m x)) ?_ (by rintro _ rfl;rw[ag];exact Ret.some rfl)
     by_cases h41:n=41
     ·rw[bc (by omega),aI,show fwB n=true from decide_eq_true (by omega)]
      exact Ret.some rfl
     rw[ar (by omega),aj]
     refine Ret.bnd (Q:=fun y=>y=Sum.inl ((fwB n,()),exT g rip fl m x)) ?_ (by rintro _ rfl;rw[ag];exact Ret.some rfl)
     by_cases h42:n=42
     ·rw[bc (by omega),aI,show fwB n=true from decide_eq_true (by omega)]
      exact Ret.some rfl
     rw[ar (by omega),aj]
     refine Ret.bnd (Q:=fun y=>y=Sum.inl ((fwB n,()),exT g rip fl m x)) ?_ (by rintro _ rfl;rw[ag];exact Ret.some rfl)
     by_cases h38:n=38
     ·rw[bc (by omega),aI,show fwB n=true from decide_eq_true (by omega)]
      exact Ret.some rfl
     rw[ar (by omega),aj]
     refine Ret.bnd (Q:=fun y=>y=Sum.inl ((fwB n,()),exT g rip fl m x)) ?_ (by rintro _ rfl;rw[ag];exact Ret.some rfl)
     by_cases h43:n=43
     ·rw[bc (by omega),aI,show fwB n=true from decide_eq_true (by omega)]
      exact Ret.some rfl
     rw[ar (by omega),aj]
     refine Ret.bnd (Q:=fun y=>y=Sum.inl ((fwB n,()),exT g rip fl m x)) ?_ (by rintro _ rfl;rw[ag];exact Ret.some rfl)
     by_cases h44:n=44
     ·rw[bc (by omega),aI,show fwB n=true from decide_eq_true (by omega)]
      exact Ret.some rfl
     rw[ar (by omega),aj]
     rw[show eqI (n:Int) 37=fwB n from by unfold eqI;unfold fwB;rw[Bool.eq_iff_iff,decide_eq_true_eq,decide_eq_true_eq];omega]
     exact Ret.some rfl
    rintro _ rfl
    rw[ag]
    dsimp only[d6,p6,exT]
    rw[Bz]
    refine Ret.bnd (Q:=fun y=>y=Sum.inl ((),(((g,(rip,(fl,()))):List Int×Int×Int×Unit),((m,()),((([]:List Int),(0,(0,()))),((),((g',(rip',(fl',(aE .i64 rip x.len,(c',()))))),(m',(l',()))))))))) ?_ (by rintro _ rfl;rw[ag];exact Ret.some rfl)
    cases hfw:fwB n with
    |true=>
     obtain⟨rfl,r⟩:=k3 hmv hwd hfw
     rw[aI,r,aa]
     exact Ret.some rfl
    |false=>
     obtain⟨rfl,r⟩:=k4 hmv hwd hfw
     rw[aj,r,aa]
     exact Ret.some rfl
 rintro _ rfl
 rw[ag]
 dsimp only[d5,p5,d6,d7]
 unfold exR
 dsimp only
 by_cases hc:c'=0
 ·rw[hc,bc rfl,cf,aj,if_neg (by decide)]
  exact Ret.some rfl
 ·rw[ar hc,dw,aI,if_pos hc,pL m (by have:=hm.len;omega),aa]
  exact Ret.some rfl
end
noncomputable section
theorem mS {c f:Int}(h0:0≤c)(h1:c≤15):cS ((c,(f,())),())=some (iF c f,()):=by
 unfold cS
 dsimp only
 have hs:∀b,aY (eqI (cM .i64 f b) 0)=kU f b:=fun b=>by
  unfold kU
  cases eqI (cM .i64 f b) 0<;>rfl
 simp only[hs]
 have o1:br (kU f 1) (some true) (some (kU f 64))=some (kU f 1||kU f 64):=by cases kU f 1<;>rfl
 have o2:br (kU f 64) (some true) (some (aY (eqB (kU f 128) (kU f 2048))))=some (kU f 64||(kU f 128 != kU f 2048)):=by rw[neB];cases kU f 64<;>rfl
 rw[o1,aa,o2,aa,gQ h0 (by decide) (by omega),af (cI (by omega) (by omega)),ej h0,neB]
 congr 2
theorem fd (a b:Int):aX ((a,(b,())),())=some (aE .i64 a b,()):=by
 unfold aX
 dsimp only
 congr 2
 unfold ah
 rw[AE]
 unfold aE
 refine kK ?_
 rw[fj,fj]
 omega
theorem qm {g:List Int}{rip fl r:Int}{n:Nat}(hg:jf g)(hn:co (n:Int)=true)(hr:qM r n):dD (((g,(rip,(fl,()))),(r,((n:Int),()))),())=some (jZ g r n,()):=by
 unfold qM at hr
 unfold dD jZ
 dsimp only
 by_cases h16:16≤r
 ·rw[fU h16,aI,if_pos h16,cE (by omega) (by omega),af (cI (by omega) (by omega))]
  have h1:=bu (v:=ah .i64 (cA .u64 (ah .u64 (aP g (r-16) (aB .i))) 8)) (gK _) 1 rfl
  have h1':ak (((ah .i64 (cA .u64 (ah .u64 (aP g (r-16) (aB .i))) 8)),(1,())),())=_:=h1
  rw[h1',aa]
  have hI:=hg (r-16)
  obtain⟨v,hv⟩:∃v,v=aP g (r-16) (aB .i):=⟨_,rfl⟩
  rw[←hv]
  have hI:I64 v:=by rw[hv];exact hI
  unfold I64 at hI
  have e:bZ (ah .i64 (cA .u64 (ah .u64 v) 8)) 1=bZ (cA .i64 v 8) 1:=by
   unfold bZ
   rw[if_neg (by decide),if_neg (by decide)]
   have hs:cA .u64 (ah .u64 v) 8=ah .u64 v/256:=qW _ 8 (by decide)
   have hs2:cA .i64 v 8=v/256:=by
    unfold cA
    rw[show(2:Int)^min (Int.toNat 8) IntKind.i64.bits=256 from rfl,Int.fdiv_eq_ediv_of_nonneg _ (by decide)]
   rw[hs,hs2]
   have hw:ah .u64 v=v%18446744073709551616:=fj
   rw[hw,show(2:Int)^(8*1)=256 from rfl]
   have:=l6 (v%18446744073709551616/256)
   unfold ah
   omega
  rw[e,hv]
 ·rw[jR h16,aj,if_neg h16,af (cI (by omega) (by omega)),bu (hg r) n hn,aa]
end
noncomputable section
theorem sC {a b:Int}(h:a%18446744073709551616=b%18446744073709551616):BitVec.ofInt 64 a=BitVec.ofInt 64 b:=by
 apply BitVec.eq_of_toNat_eq
 rw[BitVec.toNat_ofInt,BitVec.toNat_ofInt]
 show(a%18446744073709551616).toNat=(b%18446744073709551616).toNat
 rw[h]
theorem uM {a b c d:Int}(h1:a%18446744073709551616=c%18446744073709551616)(h2:b%18446744073709551616=d%18446744073709551616):ah .i64 (ior .u64 a b)=ior .i64 c d:=by
 unfold ior ah
 refine kK ?_
 rw[fj,Int.emod_emod]
 show((BitVec.ofInt 64 a|||BitVec.ofInt 64 b).toNat:Int)%_=((BitVec.ofInt 64 c|||BitVec.ofInt 64 d).toNat:Int)%_
 rw[sC h1,sC h2]
theorem pY {a b m:Int}(h:a%18446744073709551616=b%18446744073709551616):gC .u64 a m%18446744073709551616=gC .i64 b m%18446744073709551616:=by
 unfold gC
 rw[fj,Int.emod_emod,l6]
 show((BitVec.ofInt 64 a&&& ~~~BitVec.ofInt 64 m).toNat:Int)%_=((BitVec.ofInt 64 b&&& ~~~BitVec.ofInt 64 m).toNat:Int)%_
 rw[sC h]
theorem BA (a:Int)(k:Nat)(hk:k≤63):uns (gC .i64 a ((2^k-1:Nat):Int))=2^k*(uns a/2^k):=by
 unfold gC
 rw[b9]
 show uns (((BitVec.ofInt 64 a&&& ~~~BitVec.ofInt 64 ((2^k-1:Nat):Int)).toNat:Nat):Int)=_
 rw[fi (BitVec.isLt _)]
 have hm:(BitVec.ofInt 64 ((2^k-1:Nat):Int)).toNat=2^k-1:=by
  have hlt:2^k-1<2^64:=Nat.lt_of_lt_of_le (Nat.sub_lt (Nat.two_pow_pos k) (by decide)) (Nat.pow_le_pow_right (by decide) (by omega))
  rw[BitVec.toNat_ofInt]
  have:(((2^k-1:Nat):Int)%((2^64:Nat):Int))=(((2^k-1)%2^64:Nat):Int):=(Int.natCast_emod ..).symm
  rw[this,Int.toNat_natCast,Nat.mod_eq_of_lt hlt]
 refine Nat.eq_of_testBit_eq fun i=>?_
 rw[←BitVec.getLsbD,BitVec.getLsbD_and,BitVec.getLsbD_not]
 rw[BitVec.getLsbD,BitVec.getLsbD,hm,Nat.testBit_two_pow_sub_one,Nat.testBit_two_pow_mul]
 show((uns a).testBit i&&_)=_
 rw[Nat.testBit_div_two_pow]
 by_cases h:i<64
 ·by_cases hki:k≤i
  ·rw[decide_eq_true h,decide_eq_false (by omega),decide_eq_true hki,show i-k+k=i by omega];simp
  ·rw[decide_eq_true h,decide_eq_true (show i<k by omega),decide_eq_false hki];simp
 ·have:(uns a).testBit i=false:=Nat.testBit_lt_two_pow (Nat.lt_of_lt_of_le (eH a) (Nat.pow_le_pow_right (by decide) (by omega)))
  by_cases hki:k≤i
  ·rw[this,decide_eq_true hki,show i-k+k=i by omega,this];simp
  ·omega
theorem set_low {x v:Int}{n:Nat}(hn:n=1∨n=2)(hx:I64 x)(hv:I64 v)(m:Int)(hm:m=((2^(8*n)-1:Nat):Int)):
  ah .i64 (ior .u64 (gC .u64 (ah .u64 x) m) (dF .u64 (ah .u64 (bZ v n)) 0))=aE .i64 x (aZ .i64 (bZ v n) (bZ x n)):=by
 have hs:co (n:Int)=true:=by rcases hn with rfl|rfl<;>rfl
 have hw:∀z:Int,ah .u64 z=z%18446744073709551616:=fun z=>fj
 have e0:dF .u64 (ah .u64 (bZ v n)) 0=ah .u64 (bZ v n)%18446744073709551616:=by
  have:=y8 (ah .u64 (bZ v n)) 0 (by decide)
  rw[Int.pow_zero,Int.mul_one]at this
  exact this
 have h1:=pY (a:=ah .u64 x) (b:=x) (m:=m) (by rw[hw];omega)
 have h2:dF .u64 (ah .u64 (bZ v n)) 0%18446744073709551616=bZ v n%18446744073709551616:=by rw[e0,hw];omega
 rw[uM h1 h2]
 refine je (kj ..) (au _) ?_
 rw[lW,hm,BA x _ (by omega),cB hv hs,←Nat.two_pow_add_eq_or_of_lt (gB v n)]
 unfold aE aZ
 rw[b9]
 have hl:=cB hv hs
 have hl2:=cB hx hs
 have c1:=bn (bZ v n)
 have c2:=bn (bZ x n)
 have c3:=bn x
 rw[hl]at c1
 rw[hl2]at c2
 have hlx:ch x n=uns x%2^(8*n):=rfl
 have hdm:=Nat.div_add_mod (uns x) (2^(8*n))
 have hux:=eH x
 have hlv:=gB v n
 have hP:2^(8*n)≤65536:=by rcases hn with rfl|rfl<;>decide
 have hz:=bn (x+IntKind.wrap .i64 (bZ v n-bZ x n))
 have hwe:=l6 (bZ v n-bZ x n)
 rw[show(2:Int)^64=18446744073709551616 from rfl]at*
 have key:((uns (x+IntKind.wrap .i64 (bZ v n-bZ x n)):Nat):Int)=((2^(8*n)*(uns x/2^(8*n))+ch v n:Nat):Int):=by
  rw[hz]
  have hbd:2^(8*n)*(uns x/2^(8*n))+ch v n<18446744073709551616:=by
   have hd64:2^(8*n)*(uns x/2^(8*n))+2^(8*n)≤2^64:=by
    have hq:uns x/2^(8*n)<2^(64-8*n):=Nat.div_lt_of_lt_mul (by rw[←Nat.pow_add,show 8*n+(64-8*n)=64 by omega];exact hux)
    have:2^(8*n)*(uns x/2^(8*n)+1)≤2^(8*n)*2^(64-8*n):=Nat.mul_le_mul_left _ hq
    rw[←Nat.pow_add,show 8*n+(64-8*n)=64 by omega,Nat.mul_add,Nat.mul_one]at this
    exact this
   exact Nat.lt_of_lt_of_le (Nat.add_lt_add_left hlv _) hd64
  rw[Int.natCast_add]
  obtain⟨A,hA⟩:∃A,A=2^(8*n)*(uns x/2^(8*n)):=⟨_,rfl⟩
  rw[←hA]at hdm hbd⊢
  rw[←hlx]at hdm
  generalize IntKind.wrap .i64 (bZ v n-bZ x n)=W at*
  omega
 omega
end
noncomputable section
theorem ishl8 (v:Int):dF .u64 (ah .u64 v) 8%18446744073709551616=dF .i64 v 8%18446744073709551616:=by
 have h1:dF .u64 (ah .u64 v) 8=ah .u64 v*256%18446744073709551616:=y8 (ah .u64 v) 8 (by decide)
 have h2:ah .u64 v=v%18446744073709551616:=fj
 have h3:dF .i64 v 8=IntKind.wrap .i64 (v*256):=rfl
 rw[h1,h2,h3,l6]
 omega
theorem jH {g:List Int}{rip fl r v:Int}{n:Nat}(hg:jf g)(hv:I64 v)(hn:co (n:Int)=true)(hr:qM r n):
  cz (((g,(rip,(fl,()))),(r,((n:Int),(v,())))),())=some ((qT g r n v,(rip,(fl,()))),()):=by
 have h1:=bu hv n hn
 have h4:=ta hn
 unfold qM at hr
 unfold cz qT Go.Den.G.setA
 dsimp only
 rw[h1,aa]
 dsimp only
 by_cases h16:16≤r
 ·have hn1:n=1:=by omega
  subst hn1
  rw[fU h16,aI,aa,ag,if_pos h16,cE (by omega) (by omega)]
  dsimp only
  rw[show leI 4 ((1:Nat):Int)=false from rfl,aj,show bJ .i64 8 ((1:Nat):Int)=8 from rfl,show ah .u64 8=8 from rfl,show leI 0 8=true from rfl,aI,aI,af (cI (by omega) (by omega)),aI,af (cI (by omega) (by omega))]
  rw[show dF .u64 (aZ .u64 (dF .u64 1 8) 1) 8=65280 from by decide]
  have e:=uM (a:=gC .u64 (ah .u64 (aP g (r-16) (aB .i))) 65280) (b:=dF .u64 (ah .u64 (bZ v 1)) 8) (c:=gC .i64 (aP g (r-16) (aB .i)) 65280) (d:=dF .i64 (bZ v 1) 8)
   (pY (by rw[show ah .u64 (aP g (r-16) (aB .i))=_ from fj,Int.emod_emod])) (ishl8 _)
  rw[e]
 ·rw[jR h16,aj,aa,ag,if_neg h16]
  dsimp only
  by_cases h4':4≤n
  ·rw[af (fU (by omega)),af (cI (by omega) (by omega)),if_pos h4']
  ·rw[an (jR (by omega)),if_neg h4']
   have hI:=hg r
   have hn12:n=1∨n=2:=by omega
   have e:=set_low (x:=rg g r) (v:=v) (n:=n) hn12 hI hv ((2^(8*n)-1:Nat):Int) rfl
   rcases hn12 with rfl|rfl
   ·rw[show bJ .i64 8 ((1:Nat):Int)=8 from rfl,show ah .u64 8=8 from rfl,show ah .u64 0=0 from rfl,show leI 0 8=true from rfl,show leI 0 0=true from rfl,aI,aI,af (cI (by omega) (by omega)),aI,af (cI (by omega) (by omega))]
    rw[show dF .u64 (aZ .u64 (dF .u64 1 8) 1) 0=((2^(8*1)-1:Nat):Int)from by decide]
    rw[e]
   ·rw[show bJ .i64 8 ((2:Nat):Int)=16 from rfl,show ah .u64 16=16 from rfl,show ah .u64 0=0 from rfl,show leI 0 16=true from rfl,show leI 0 0=true from rfl,aI,aI,af (cI (by omega) (by omega)),aI,af (cI (by omega) (by omega))]
    rw[show dF .u64 (aZ .u64 (dF .u64 1 16) 1) 0=((2^(8*2)-1:Nat):Int)from by decide]
    rw[e]
theorem mul_u (a b:Int):ah .i64 (bJ .u64 (ah .u64 a) (ah .u64 b))=bJ .i64 a b:=by
 have h1:∀z:Int,ah .u64 z=z%18446744073709551616:=fun z=>fj
 unfold ah bJ
 refine kK ?_
 rw[fj,fj,fj,Int.emod_emod,Int.mul_emod a b,←Int.mul_emod]
theorem kV {g:List Int}{rip fl nx:Int}{o:Opd}(hb:o.base≤16∧o.index≤15):
  bS (((g,(rip,(fl,()))),(cZ o (),(nx,()))),())=some (mw g nx o,()):=by
 unfold bS mw cZ
 dsimp only
 refine(Ret.bnd (Q:=fun y=>y=Sum.inl ((if o.base=16 then aE .i64 o.disp nx else if 0≤o.base then aE .i64 o.disp (rg g o.base)else o.disp,()),((g,(rip,(fl,()))),((o.kind,(o.reg,(o.base,(o.index,(o.scale,(o.disp,(o.imm,()))))))),())))) ?_ ?_).eq
 ·by_cases b16:o.base=16
  ·rw[bc b16,aI,if_pos b16,fd,aa]
   exact Ret.some rfl
  ·rw[ar b16,aj,if_neg b16]
   by_cases hb0:0≤o.base
   ·rw[af (fU hb0),af (cI hb0 (by omega)),if_pos hb0,fd,aa,aa,ag]
    exact Ret.some rfl
   ·rw[an (jR hb0),if_neg hb0,aa,ag]
    exact Ret.some rfl
 rintro _ rfl
 rw[ag]
 dsimp only
 by_cases hi:0≤o.index
 ·rw[af (fU hi),af (cI hi (by omega)),if_pos hi,mul_u,fd,aa]
  exact Ret.some rfl
 ·rw[an (jR hi),if_neg hi]
  exact Ret.some rfl
theorem wU (m:List Page)(hm:MemT m)(a v:Int)(n:Nat)(hn:co (n:Int)=true)(ha:I64 a):
  eU (((m,()),(a,((n:Int),(v,())))),())=some ((((jN m a n v).1,()),((jN m a n v).2,())),()):=by
 obtain⟨n1,n8⟩:=dR hn
 obtain⟨_,hs⟩:=tP m hm a v n hn ha
 generalize jN m a n v=s at hs⊢
 obtain⟨x,e⟩:=s
 dsimp only at hs⊢
 unfold eU
 dsimp only
 rw[jr m hm.r a 2 n n1 (by omega) ha,aa]
 dsimp only
 rcases hs with ⟨_,rfl,he,hf⟩|⟨rfl,hf,hx⟩
 ·rw[ar hf,dw,aI,he]
 ·have hok:=lx hm.r n 0 hf
  have hok:∀k,k<(leB v n).length→¬fnd m (a+(k:Nat))<0:=fun k hk=>hok k (Nat.zero_le _) (by rw[om]at hk;omega)
  obtain⟨y,hy1,hy2⟩:=put_ex m hm a (leB v n) ha (by rw[om];omega) hok
  rw[om]at hy2
  rw[hf,bc rfl,cf,aj,uP v n n8,aa,hy1,aa,hy2.unique hx]
abbrev TR:=(List Int×Int×Int×List Page×Int×Int×Unit)×List Acc×Unit
def MS.r (s:MS)(rip fl nx:Int):TR:=((s.g,rip,fl,s.m,nx,s.code,()),s.l,())
theorem Ca {s:MS}{k:Nat}(hs:s.ok k)(hk:k≤1000){a:Int}(ha:I64 a){n:Nat}(hn:co (n:Int)=true)(rip fl nx:Int):
  bm ((a,((n:Int),())),s.r rip fl nx)=some ((s.ld a n).1,(s.ld a n).2.r rip fl nx):=by
 obtain⟨n1,n8⟩:=dR hn
 unfold bm MS.r MS.ld
 dsimp only
 by_cases hc:s.code=0
 ·rw[hc,if_neg (by simp),bc rfl,cf,aj,vV _ hs.m.r a n n1 n8 ha,aa]
  dsimp only
  rw[Eb (Nat.le_trans hs.l hk),aI]
  rfl
 ·rw[if_pos hc,ar hc,dw,aI]
theorem xI {s:MS}{k:Nat}(hs:s.ok k)(hk:k≤1000){a v:Int}(ha:I64 a)(hv:I64 v){n:Nat}(hn:co (n:Int)=true)(rip fl nx:Int):
  aW ((a,((n:Int),(v,()))),s.r rip fl nx)=some ((),(s.st a n v).r rip fl nx):=by
 unfold aW MS.r MS.st
 dsimp only
 by_cases hc:s.code=0
 ·rw[hc,if_neg (by simp),bc rfl,cf,aj,wU _ hs.m a v n hn ha,aa,bu hv n hn,aa]
  dsimp only
  rw[Eb (Nat.le_trans hs.l hk),aI]
  rfl
 ·rw[if_pos hc,ar hc,dw,aI]
theorem get_r {s:MS}{k:Nat}(hs:s.ok k)(hk:k≤1000){o:Opd}{n:Nat}(hn:co (n:Int)=true)(hv:OpV o n)(rip fl nx:Int):
  aw ((cZ o (),((n:Int),())),s.r rip fl nx)=some ((s.rd nx o n).1,(s.rd nx o n).2.r rip fl nx):=by
 have hI:=kM (g:=s.g) (nx:=nx) hv
 have hl:=Ca hs hk hI hn rip fl nx
 have hg:=(hs.ld (mw s.g nx o) n).2.2
 unfold aw MS.rd
 dsimp only[cZ]
 by_cases h1:o.kind=1
 ·have hr:=hv.r (by omega) h1
  rw[if_pos h1,bc h1,aI]
  have h:=qm (rip:=rip) (fl:=fl) hs.g hn hr
  unfold MS.r
  dsimp only
  rw[h,aa]
 ·rw[if_neg h1,ar h1,aj]
  by_cases h2:o.kind=2
  ·rw[if_pos h2,bc h2,aI]
   have h:=kV (g:=s.g) (rip:=rip) (fl:=fl) (nx:=nx) (hv.b h2)
   unfold MS.r at hl⊢
   unfold cZ at h
   dsimp only at hl⊢
   rw[h,aa]
   dsimp only
   rw[hl,aa]
   dsimp only
   rw[hg.1,hg.2]
  ·rw[if_neg h2,ar h2,aj]
theorem put_r {s:MS}{k:Nat}(hs:s.ok k)(hk:k≤1000){o:Opd}{n:Nat}{v:Int}(hI:I64 v)(hn:co (n:Int)=true)(hv:OpV o n)(h0:o.kind=1∨o.kind=2)(rip fl nx:Int):
  aK ((cZ o (),((n:Int),(v,()))),s.r rip fl nx)=some ((),(s.wr nx o n v).r rip fl nx):=by
 have hA:=kM (g:=s.g) (nx:=nx) hv
 have hl:=xI hs hk (v:=v) hA hI hn rip fl nx
 have hg:=(hs.st (v:=v) hA hn).2
 unfold aK MS.wr
 dsimp only[cZ]
 by_cases h2:o.kind=2
 ·rw[if_pos h2,ar (by omega),aj]
  have h:=kV (g:=s.g) (rip:=rip) (fl:=fl) (nx:=nx) (hv.b h2)
  unfold MS.r at hl⊢
  unfold cZ at h
  dsimp only at hl⊢
  rw[h,aa]
  dsimp only
  rw[hl,aa]
  dsimp only
  rw[hg]
 ·have h1:o.kind=1:=by omega
  have hr:=hv.r h2 h1
  rw[if_neg h2,bc h1,aI]
  have h:=jH (rip:=rip) (fl:=fl) hs.g hI hn hr
  unfold MS.r
  dsimp only
  rw[h,aa]
theorem push_r {s:MS}{k:Nat}(hs:s.ok k)(hk:k≤1000){v:Int}(hv:I64 v)(rip fl nx:Int):bY ((v,()),s.r rip fl nx)=some ((),(s.pu v).r rip fl nx):=by
 have h1:=hs.setA (i:=4) (v:=aZ .i64 (rg s.g 4) 8) (au _)
 have h2:=xI h1 hk (a:=rg (setA s.g 4 (aZ .i64 (rg s.g 4) 8)) 4) (v:=v) (n:=8) (h1.g 4) hv rfl rip fl nx
 have h3:=(h1.st (a:=rg (setA s.g 4 (aZ .i64 (rg s.g 4) 8)) 4) (n:=8) (h1.g 4) rfl v).2
 have e:aE .i64 (rg s.g 4) (-8)=aZ .i64 (rg s.g 4) 8:=by unfold aE aZ;rw[Int.sub_eq_add_neg]
 unfold bY
 unfold MS.r at h2⊢
 dsimp only at h2 h3⊢
 have e':aX (((aP s.g 4 (aB .i)),(-8,())),())=some (aZ .i64 (rg s.g 4) 8,()):=by rw[fd];rw[←e]
 rw[e',aa]
 dsimp only
 have h2':aW (((aP (cF (eA 16 (aB .i) s.g) 4 (aZ .i64 (rg s.g 4) 8)) 4 (aB .i)),(8,(v,()))),(((cF (eA 16 (aB .i) s.g) 4 (aZ .i64 (rg s.g 4) 8)),(rip,(fl,(s.m,(nx,(s.code,())))))),(s.l,())))=_:=h2
 rw[h2',aa]
 unfold MS.pu
 dsimp only
 rw[h3]
 rfl
theorem pop_r {s:MS}{k:Nat}(hs:s.ok k)(hk:k≤1000)(rip fl nx:Int):cm ((),s.r rip fl nx)=some (s.po.1,s.po.2.r rip fl nx):=by
 have h2:=Ca hs hk (a:=rg s.g 4) (n:=8) (hs.g 4) rfl rip fl nx
 have h3:=(hs.ld (rg s.g 4) 8).2.2
 unfold cm
 unfold MS.r at h2⊢
 dsimp only at h2⊢
 have h2':bm (((aP s.g 4 (aB .i)),(8,())),((s.g,(rip,(fl,(s.m,(nx,(s.code,())))))),(s.l,())))=_:=h2
 rw[h2',aa,fd,aa]
 unfold MS.po
 dsimp only
 rw[h3.2]
 rfl
theorem goal_r {s:MS}{k:Nat}(hs:s.ok k)(hk:k≤1000){x:Ins}(hv:OpV x.src 8)(rip fl nx:Int):bC ((x,()),s.r rip fl nx)=some ((s.go nx x).1,(s.go nx x).2.r rip fl nx):=by
 have hr:=get_r hs hk (n:=8) rfl hv rip fl nx
 have hg:=(hs.rd nx (n:=8) rfl hv).2.2
 unfold bC MS.go
 dsimp only
 by_cases h3:x.src.kind=3
 ·rw[bc h3,aI,if_pos h3]
  have h:=fd nx x.src.imm
  unfold MS.r
  dsimp only
  rw[h,aa]
 ·rw[ar h3,aj,if_neg h3]
  have hr':aw ((cZ x.src (),(8,())),s.r rip fl nx)=_:=hr
  rw[hr',aa]
  unfold MS.r
  dsimp only
  rw[hg.1,hg.2]
end
set_option linter.unusedSectionVars false
noncomputable section
theorem gtq {g:List Int}{m:List Page}{c:Int}{l:List Acc}{k:Nat}(hs:(MS.mk g m c l).ok k)(hk:k≤1000){o:Opd}{n:Nat}(hn:co (n:Int)=true)(hv:OpV o n)(nx:Int):
  ∃v c' l',(MS.mk g m c l).rd nx o n=(v,⟨g,m,c',l'⟩)∧(∀rip fl,aw ((cZ o (),((n:Int),())),((g,rip,fl,m,nx,c,()),l,()))=some (v,((g,rip,fl,m,nx,c',()),l',())))∧(MS.mk g m c' l').ok (k+1)∧I64 v:=by
 obtain⟨h1,h2,h3,h4⟩:=hs.rd nx hn hv
 have h5:=fun rip fl=>get_r hs hk hn hv rip fl nx
 obtain⟨v,c',l',e⟩:=z5 h3 h4
 rw[e]at h1 h2
 refine⟨v,c',l',e,fun rip fl=>?_,h1,h2⟩
 have:=h5 rip fl
 rw[e]at this
 exact this
theorem ptq {g:List Int}{m:List Page}{c:Int}{l:List Acc}{k:Nat}(hs:(MS.mk g m c l).ok k)(hk:k≤1000){o:Opd}{n:Nat}(hn:co (n:Int)=true)(hv:OpV o n)(h0:o.kind=1∨o.kind=2)(nx:Int){v:Int}(hI:I64 v):
  ∃g' m' c' l',(MS.mk g m c l).wr nx o n v=⟨g',m',c',l'⟩∧(∀rip fl,aK ((cZ o (),((n:Int),(v,()))),((g,rip,fl,m,nx,c,()),l,()))=some ((),((g',rip,fl,m',nx,c',()),l',())))∧(MS.mk g' m' c' l').ok (k+1):=
 ⟨_,_,_,_,rfl,fun rip fl=>put_r hs hk hI hn hv h0 rip fl nx,hs.wr nx hI hn hv⟩
theorem puq {g:List Int}{m:List Page}{c:Int}{l:List Acc}{k:Nat}(hs:(MS.mk g m c l).ok k)(hk:k≤1000){v:Int}(hv:I64 v):
  ∃g' m' c' l',(MS.mk g m c l).pu v=⟨g',m',c',l'⟩∧(∀rip fl nx,bY ((v,()),((g,rip,fl,m,nx,c,()),l,()))=some ((),((g',rip,fl,m',nx,c',()),l',())))∧(MS.mk g' m' c' l').ok (k+1):=
 ⟨_,_,_,_,rfl,fun rip fl nx=>push_r hs hk hv rip fl nx,hs.pu v⟩
theorem poq {g:List Int}{m:List Page}{c:Int}{l:List Acc}{k:Nat}(hs:(MS.mk g m c l).ok k)(hk:k≤1000):
  ∃v g' c' l',(MS.mk g m c l).po=(v,⟨g',m,c',l'⟩)∧(∀rip fl nx,cm ((),((g,rip,fl,m,nx,c,()),l,()))=some (v,((g',rip,fl,m,nx,c',()),l',())))∧(MS.mk g' m c' l').ok (k+1)∧I64 v:=by
 obtain⟨h1,h2,h3⟩:=hs.po
 have h5:=fun rip fl nx=>pop_r hs hk rip fl nx
 obtain⟨v,g',c',l',e⟩:∃v g' c' l',(MS.mk g m c l).po=(v,MS.mk g' m c' l'):=by
  generalize (MS.mk g m c l).po=r at h3
  obtain⟨v,g',m',c',l'⟩:=r
  cases h3
  exact⟨v,g',c',l',rfl⟩
 rw[e]at h1 h2
 refine⟨v,g',c',l',e,fun rip fl nx=>?_,h1,h2⟩
 have:=h5 rip fl nx
 rw[e]at this
 exact this
theorem goq {g:List Int}{m:List Page}{c:Int}{l:List Acc}{k:Nat}(hs:(MS.mk g m c l).ok k)(hk:k≤1000){x:Ins}(hv:OpV x.src 8)(nx:Int):
  ∃v c' l',(MS.mk g m c l).go nx x=(v,⟨g,m,c',l'⟩)∧(∀rip fl,bC ((x,()),((g,rip,fl,m,nx,c,()),l,()))=some (v,((g,rip,fl,m,nx,c',()),l',())))∧(MS.mk g m c' l').ok (k+1)∧I64 v:=by
 obtain⟨h1,h2⟩:=hs.go nx hv
 have h5:=fun rip fl=>goal_r hs hk hv rip fl nx
 have h3:((MS.mk g m c l).go nx x).2.g=g∧((MS.mk g m c l).go nx x).2.m=m:=by
  unfold MS.go
  split
  ·exact⟨rfl,rfl⟩
  ·exact(hs.rd nx (n:=8) rfl hv).2.2
 obtain⟨v,c',l',e⟩:=z5 h3.1 h3.2
 rw[e]at h1 h2
 refine⟨v,c',l',e,fun rip fl=>?_,h1,h2⟩
 have:=h5 rip fl
 rw[e]at this
 exact this
theorem ldq {g:List Int}{m:List Page}{c:Int}{l:List Acc}{k:Nat}(hs:(MS.mk g m c l).ok k)(hk:k≤1000){a:Int}(ha:I64 a){n:Nat}(hn:co (n:Int)=true):
  ∃v c' l',(MS.mk g m c l).ld a n=(v,⟨g,m,c',l'⟩)∧(∀rip fl nx,bm ((a,((n:Int),())),((g,rip,fl,m,nx,c,()),l,()))=some (v,((g,rip,fl,m,nx,c',()),l',())))∧(MS.mk g m c' l').ok (k+1)∧I64 v:=by
 obtain⟨h1,h2,h3,h4⟩:=hs.ld a n
 have h5:=fun rip fl nx=>Ca hs hk ha hn rip fl nx
 obtain⟨v,c',l',e⟩:=z5 h3 h4
 rw[e]at h1 h2
 refine⟨v,c',l',e,fun rip fl nx=>?_,h1,h2⟩
 have:=h5 rip fl nx
 rw[e]at this
 exact this
theorem stq {g:List Int}{m:List Page}{c:Int}{l:List Acc}{k:Nat}(hs:(MS.mk g m c l).ok k)(hk:k≤1000){a:Int}(ha:I64 a){n:Nat}(hn:co (n:Int)=true){v:Int}(hv:I64 v):
  ∃m' c' l',(MS.mk g m c l).st a n v=⟨g,m',c',l'⟩∧(∀rip fl nx,aW ((a,((n:Int),(v,()))),((g,rip,fl,m,nx,c,()),l,()))=some ((),((g,rip,fl,m',nx,c',()),l',())))∧(MS.mk g m' c' l').ok (k+1):=by
 obtain⟨h1,h2⟩:=hs.st ha hn v
 have h5:=fun rip fl nx=>xI hs hk ha hv hn rip fl nx
 obtain⟨m',c',l',e⟩:∃m' c' l',(MS.mk g m c l).st a n v=⟨g,m',c',l'⟩:=by
  generalize (MS.mk g m c l).st a n v=r at h2
  obtain⟨g',m',c',l'⟩:=r
  cases h2
  exact⟨m',c',l',rfl⟩
 rw[e]at h1
 refine⟨m',c',l',e,fun rip fl nx=>?_,h1⟩
 have:=h5 rip fl nx
 rw[e]at this
 exact this
def RelR (S:MS)(nx fl:Int)(e:MS×Int×Int):Prop:=S.l=e.1.l∧S.code=e.1.code∧(e.1.code=0→S=e.1∧nx=e.2.1∧fl=e.2.2)
theorem RelR.same {S:MS}{nx fl:Int}{e:MS×Int×Int}(h:e=(S,nx,fl)):RelR S nx fl e:=by subst h;exact⟨rfl,rfl,fun _=>⟨rfl,rfl,rfl⟩⟩
def fV (g:List Int)(m:List Page)(c:Int)(l:List Acc)(x:Ins)(rip fl nx:Int)(e:MS×Int×Int):Prop:=
 ∃S fl' nx',aR ((x,()),((g,rip,fl,m,nx,c,()),l,()))=some ((),S.r rip fl' nx')∧RelR S nx' fl' e
theorem AS {α β:Type}(n:Nat)(X:α):br (leI (n:Int) 8) (some (Sum.inl (((leI (n:Int) 8),()),X):Sum ((Bool×Unit)×α) β)) (some (Sum.inl (((eqI (n:Int) 10),()),X)))=some (Sum.inl ((decide (n≤8∨n=10),()),X)):=by
 by_cases h:n≤8
 ·rw[fU (show(n:Int)≤8 by omega),aI,decide_eq_true (by omega)]
 ·rw[jR (show ¬(n:Int)≤8 by omega),aj]
  by_cases h2:n=10
  ·rw[bc (show(n:Int)=10 by omega),decide_eq_true (by omega)]
  ·rw[ar (show ¬(n:Int)=10 by omega),decide_eq_false (by omega)]
theorem Du {α R:Type}(n:Nat)(X:α):
  (br (eqI (n:Int) 11) (some (Sum.inl (((eqI (n:Int) 11),()),X))) (bnd (br (eqI (n:Int) 12) (some (Sum.inl (((eqI (n:Int) 12),()),X))) (bnd (br (eqI (n:Int) 18) (some (Sum.inl (((eqI (n:Int) 18),()),X))) (some (Sum.inl (((eqI (n:Int) 19),()),X)))) (fun(x9:Sum ((Bool×Unit)×α) (Sum ((Bool×Unit)×α) (Sum ((Bool×Unit)×α) R)))=>(ba x9 (fun x10=>(some (Sum.inl x10))) some)))) (fun(x11:Sum ((Bool×Unit)×α) (Sum ((Bool×Unit)×α) R))=>(ba x11 (fun x12=>(some (Sum.inl x12))) some))))=some (Sum.inl ((decide (n=11∨n=12∨n=18∨n=19),()),X)):=by
 by_cases h1:n=11
 ·rw[bc (show(n:Int)=11 by omega),aI,decide_eq_true (by omega)]
 rw[ar (show ¬(n:Int)=11 by omega),aj]
 by_cases h2:n=12
 ·rw[bc (show(n:Int)=12 by omega),aI,aa,ag,decide_eq_true (by omega)]
 rw[ar (show ¬(n:Int)=12 by omega),aj]
 by_cases h3:n=18
 ·rw[bc (show(n:Int)=18 by omega),aI,aa,ag,aa,ag,decide_eq_true (by omega)]
 rw[ar (show ¬(n:Int)=18 by omega),aj,aa,ag,aa,ag]
 by_cases h4:n=19
 ·rw[bc (show(n:Int)=19 by omega),decide_eq_true (by omega)]
 ·rw[ar (show ¬(n:Int)=19 by omega),decide_eq_false (by omega)]
theorem put_ne (n:Nat):br (aY (eqI (n:Int) 8)) (some (aY (eqI (n:Int) 10))) (some false)=some (decide (n≠8∧n≠10)):=by
 by_cases a8:n=8
 ·rw[bc (show(n:Int)=8 by omega),cf,aj,decide_eq_false (by omega)]
 ·rw[ar (show ¬(n:Int)=8 by omega),dw,aI]
  by_cases a10:n=10
  ·rw[bc (show(n:Int)=10 by omega),cf,decide_eq_false (by omega)]
  ·rw[ar (show ¬(n:Int)=10 by omega),dw,decide_eq_true (by omega)]
end
set_option linter.unusedSectionVars false
noncomputable section
theorem CO {w v op a f:Int}{z:Nat}(h:w%64=v%64):i6 op z a w f=i6 op z a v f:=by
 unfold i6
 have:xB z w=xB z v:=by unfold xB;split<;>omega
 rw[this]
section
variable {g:List Int}{m:List Page}{c:Int}{l:List Acc}{k:Nat}(hs:(MS.mk g m c l).ok k)(hk:k+4≤1000){x:Ins}{n z:Nat}{rip fl nx:Int}
include hs hk
theorem Cy (hx:ExV x n)(hz:x.size=z)(hn:n≤8∨n=10):fV g m c l x rip fl nx (((MS.mk g m c l).reck nx fl x n z).1,nx,((MS.mk g m c l).reck nx fl x n z).2):=by
 have hop:=hx.op
 have hz':co (z:Int)=true:=by rw[←hz];exact hx.szs.1 (by omega)
 have hdv:=hx.dv
 have hsv:=hx.sv
 have hss2:=(pC hx (by omega) hz hz').2
 have hsz:za n z=z:=by unfold za;rw[if_neg (by omega)]
 have hks:=hx.kd.2.2.2.2.2.2.2.2.2.2 (by omega)
 rw[hz]at hdv
 rw[hss2,hsz]at hsv
 obtain⟨v1,c1,l1,e1,r1,ok1,I1⟩:=gtq hs (by omega) hz' hdv nx
 obtain⟨v2,c2,l2,e2,r2,ok2,I2⟩:=gtq ok1 (by omega) hz' hsv nx
 have hrk:nT n z v1 v2 fl=wj n z v1 v2 fl:=by unfold nT;rw[if_pos hn]
 have rI:=(AF (op:=(n:Int)) (b:=v2) (f:=fl) hz' I1).1
 have hre:(MS.mk g m c l).reck nx fl x n z=(if n≠8∧n≠10 then(MS.mk g m c2 l2).wr nx x.dst z (wj n z v1 v2 fl).1 else MS.mk g m c2 l2,(wj n z v1 v2 fl).2):=by
  unfold MS.reck MS.rd0
  dsimp only
  rw[e1,if_pos (show x.src.kind≠0 by omega),hsz]
  dsimp only
  rw[e2]
  dsimp only
  rw[hrk]
 rw[hre]
 have hA:=BN (op:=(n:Int)) (f:=fl) hz' I1 I2
 generalize wj (n:Int) z v1 v2 fl=A at rI hA⊢
 obtain⟨A,f'⟩:=A
 dsimp only at rI hA⊢
 unfold cZ at r1 r2
 unfold fV aR
 dsimp only
 rw[hop,AS,aa,ag,decide_eq_true hn]
 dsimp only[dT,cZ,cp7,d5,d11]
 rw[aI,hop,hz,r1,aa]
 dsimp only
 rw[r2,aa]
 dsimp only
 rw[hA,aa,put_ne,aa]
 dsimp only
 by_cases h:n≠8∧n≠10
 ·obtain⟨g',m',c',l',e3,r3,ok3⟩:=ptq ok2 (by omega) hz' hdv (hx.kd.1 (by omega)) nx rI
  unfold cZ at r3
  rw[decide_eq_true h,aI,if_pos h,e3,r3,aa]
  exact⟨⟨g',m',c',l'⟩,f',nx,rfl,.same rfl⟩
 ·rw[decide_eq_false h,aj,if_neg h]
  exact⟨⟨g,m,c2,l2⟩,f',nx,rfl,.same rfl⟩
theorem Cz (hx:ExV x n)(hz:x.size=z)(hI:I64 fl)(hf:bV fl=true)(hn:n=11∨n=12∨n=18∨n=19):fV g m c l x rip fl nx (((MS.mk g m c l).reck nx fl x n z).1,nx,((MS.mk g m c l).reck nx fl x n z).2):=by
 have hop:=hx.op
 have hz':co (z:Int)=true:=by rw[←hz];exact hx.szs.1 (by omega)
 have hdv:=hx.dv
 have hks:=hx.kd.2.2.2.2.2.2.2.2.2.1 (by omega)
 rw[hz]at hdv
 obtain⟨v1,c1,l1,e1,r1,ok1,I1⟩:=gtq hs (by omega) hz' hdv nx
 have hrk:nT n z v1 0 fl=xm n z v1 fl:=by unfold nT;rw[if_neg (by omega),if_pos (by omega)]
 have hre:(MS.mk g m c l).reck nx fl x n z=((MS.mk g m c1 l1).wr nx x.dst z (xm n z v1 fl).1,(xm n z v1 fl).2):=by
  unfold MS.reck MS.rd0
  dsimp only
  rw[e1,if_neg (show ¬x.src.kind≠0 by omega)]
  dsimp only
  rw[hrk,if_pos (show n≠8∧n≠10 by omega)]
 rw[hre]
 have hA:=BO (op:=(n:Int)) (f:=fl) hz' I1
 have rI:=(Ct (op:=(n:Int)) (a:=v1) hz' hI hf).1
 generalize xm (n:Int) z v1 fl=A at rI hA⊢
 obtain⟨A,f'⟩:=A
 dsimp only at rI hA⊢
 obtain⟨g',m',c',l',e3,r3,ok3⟩:=ptq ok1 (by omega) hz' hdv (hx.kd.1 (by omega)) nx rI
 unfold cZ at r1 r3
 unfold fV aR
 dsimp only
 rw[hop,AS,aa,ag,decide_eq_false (by omega)]
 dsimp only
 rw[aj,show(dT x ()).1=(n:Int)from hop,Du,aa,ag,decide_eq_true hn]
 dsimp only[dT,cZ,cp7,d5,d11]
 rw[aI,hop,hz,r1,aa]
 dsimp only
 rw[hA,aa]
 dsimp only
 rw[r3,aa,e3]
 exact⟨⟨g',m',c',l'⟩,f',nx,rfl,.same rfl⟩
theorem xq (hx:ExV x n)(hz:x.size=z)(hI:I64 fl)(hf:bV fl=true)(hn:20≤n∧n≤24):fV g m c l x rip fl nx (((MS.mk g m c l).reck nx fl x n z).1,nx,((MS.mk g m c l).reck nx fl x n z).2):=by
 have hop:=hx.op
 have hz':co (z:Int)=true:=by rw[←hz];exact hx.szs.1 (by omega)
 have hdv:=hx.dv
 have hsv:=hx.sv
 have hss2:=(pC hx (by omega) hz hz').2
 have hsz:za n z=8:=by unfold za;rw[if_pos (by omega)]
 have hks:=hx.kd.2.2.2.2.2.2.2.2.1 (by omega)
 rw[hz]at hdv
 rw[hss2,hsz]at hsv
 have hsv1:OpV x.src ((1:Nat):Int):=by
  refine⟨fun h2 h1=>?_,hsv.b,hsv.d,hsv.i⟩
  have:=hsv.r h2 h1
  unfold qM at this⊢
  omega
 obtain⟨v1,c1,l1,e1,r1,ok1,I1⟩:=gtq hs (by omega) hz' hdv nx
 have hw:∃w v,(∀rip fl,aw ((cZ x.src (),(1,())),((g,rip,fl,m,nx,c,()),l,()))=some (w,((g,rip,fl,m,nx,c,()),l,())))∧(MS.mk g m c1 l1).rd nx x.src 8=(v,MS.mk g m c1 l1)∧w%64=bZ v 1%64:=by
  have h5:=fun rip fl=>get_r hs (by omega) (n:=1) rfl hsv1 rip fl nx
  unfold MS.rd at h5⊢
  rcases hks with h1|h3
  ·rw[if_pos h1]
   have hr:=hsv.r (by omega) h1
   unfold qM at hr
   refine⟨jZ g x.src.reg 1,jZ g x.src.reg 8,fun rip fl=>?_,rfl,?_⟩
   ·have:=h5 rip fl
    rw[if_pos h1]at this
    exact this
   ·unfold jZ
    rw[if_neg (by omega),if_neg (by omega)]
    have e8:bZ (rg g x.src.reg) 8=rg g x.src.reg:=if_pos rfl
    rw[e8]
  ·rw[if_neg (by omega),if_neg (by omega)]
   refine⟨x.src.imm,x.src.imm,fun rip fl=>?_,rfl,?_⟩
   ·have:=h5 rip fl
    rw[if_neg (by omega),if_neg (by omega)]at this
    exact this
   ·unfold bZ
    rw[if_neg (by decide),show(2:Int)^(8*1)=256 from rfl]
    omega
 obtain⟨w,v2,r2,e2,hwv⟩:=hw
 have hrk:nT n z v1 v2 fl=i6 n z v1 w fl:=by
  unfold nT
  rw[if_neg (by omega),if_neg (by omega),if_pos (by omega)]
  exact(CO hwv).symm
 have hre:(MS.mk g m c l).reck nx fl x n z=((MS.mk g m c1 l1).wr nx x.dst z (i6 n z v1 w fl).1,(i6 n z v1 w fl).2):=by
  unfold MS.reck MS.rd0
  dsimp only
  rw[e1,if_pos (show x.src.kind≠0 by omega),hsz]
  dsimp only
  rw[e2]
  dsimp only
  rw[hrk,if_pos (show n≠8∧n≠10 by omega)]
 rw[hre]
 have hA:=wX (op:=(n:Int)) (k:=w) (f:=fl) (by omega) hz' I1
 have rI:=(vQ (op:=(n:Int)) (k:=w) hz' I1 hI hf).1
 generalize i6 (n:Int) z v1 w fl=A at rI hA⊢
 obtain⟨A,f'⟩:=A
 dsimp only at rI hA⊢
 obtain⟨g',m',c',l',e3,r3,ok3⟩:=ptq ok1 (by omega) hz' hdv (hx.kd.1 (by omega)) nx rI
 unfold cZ at r1 r2 r3
 unfold fV aR
 dsimp only
 rw[hop,AS,aa,ag,decide_eq_false (by omega)]
 dsimp only
 rw[aj,show(dT x ()).1=(n:Int)from hop,Du,aa,ag,decide_eq_false (by omega)]
 dsimp only
 rw[aj,show(dT x ()).1=(n:Int)from hop,ei,dy,aa,decide_eq_true (by omega)]
 dsimp only[dT,cZ,cp7,d5,d11]
 rw[aI,hz,r2,aa]
 dsimp only
 rw[r1,aa]
 dsimp only
 rw[hA,aa]
 dsimp only
 rw[r3,aa,e3]
 exact⟨⟨g',m',c',l'⟩,f',nx,rfl,.same rfl⟩
theorem zX (hx:ExV x 17)(hz:x.size=z)(hI:I64 fl)(hf:bV fl=true):fV g m c l x rip fl nx (((MS.mk g m c l).reck nx fl x 17 z).1,nx,((MS.mk g m c l).reck nx fl x 17 z).2):=by
 have hop:=hx.op
 have hz':co (z:Int)=true:=by rw[←hz];exact hx.szs.1 (by omega)
 have hdv:=hx.dv
 have hsv:=hx.sv
 have hss2:=(pC hx (by omega) hz hz').2
 have hsz:za 17 z=z:=by unfold za;rw[if_neg (by omega)]
 have hks:=hx.kd.2.2.2.2.2.2.2.2.2.2 (by omega)
 rw[hz]at hdv
 rw[hss2,hsz]at hsv
 obtain⟨v1,c1,l1,e1,r1,ok1,I1⟩:=gtq hs (by omega) hz' hdv nx
 obtain⟨v2,c2,l2,e2,r2,ok2,I2⟩:=gtq ok1 (by omega) hz' hsv nx
 have hrk:nT 17 z v1 v2 fl=((qu (17:Nat) z v1 v2 fl).1,(qu (17:Nat) z v1 v2 fl).2.2):=by
  unfold nT;rw[if_neg (by omega),if_neg (by omega),if_neg (by omega)]
 have hre:(MS.mk g m c l).reck nx fl x 17 z=((MS.mk g m c2 l2).wr nx x.dst z (qu (17:Nat) z v1 v2 fl).1,(qu (17:Nat) z v1 v2 fl).2.2):=by
  unfold MS.reck MS.rd0
  dsimp only
  rw[e1,if_pos (show x.src.kind≠0 by omega),hsz]
  dsimp only
  rw[e2]
  dsimp only
  rw[hrk,if_pos (show(17:Nat)≠8∧(17:Nat)≠10 by omega)]
 rw[hre]
 have hA:=mE (op:=((17:Nat):Int)) (f:=fl) hz' I1 I2
 have rI:=(tt (op:=((17:Nat):Int)) (n:=z) (a:=v1) (b:=v2) hI hf).1
 generalize qu ((17:Nat):Int) z v1 v2 fl=A at rI hA⊢
 obtain⟨A,A2,f'⟩:=A
 dsimp only at rI hA⊢
 obtain⟨g',m',c',l',e3,r3,ok3⟩:=ptq ok2 (by omega) hz' hdv (hx.kd.1 (by omega)) nx rI
 unfold cZ at r1 r2 r3
 unfold fV aR
 dsimp only
 rw[hop,AS,aa,ag,decide_eq_false (by omega)]
 dsimp only
 rw[aj,show(dT x ()).1=((17:Nat):Int)from hop,Du,aa,ag,decide_eq_false (by omega)]
 dsimp only
 rw[aj,show(dT x ()).1=((17:Nat):Int)from hop,ei,dy,aa,decide_eq_false (by omega)]
 dsimp only
 rw[aj,bc (show((17:Nat):Int)=17 by omega),aI]
 dsimp only[dT,cZ,cp7,d5,d11]
 rw[hz,r1,aa]
 dsimp only
 rw[r2,aa]
 dsimp only
 rw[hA,aa]
 dsimp only
 rw[r3,aa,e3]
 exact⟨⟨g',m',c',l'⟩,f',nx,rfl,.same rfl⟩
end
end
end Go.Den.G
