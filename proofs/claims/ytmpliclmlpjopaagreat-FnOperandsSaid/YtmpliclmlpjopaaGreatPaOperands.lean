/- Theory for the proofs of this claim: see its last text. -/
import Derived.Test.YtmpliclmlpjopaaGreatFnOperands
import Derived.Test.YtmpliclmlpjopaaGreatDenF
import Derived.KernelRfl
import Derived.Laws.MathBits
section
set_option linter.unusedVariables false
noncomputable section
namespace Go.Den.G
def ic (x1:((Int×(Int×Unit))×Unit)):Option (Int×Unit):=
 (iter (σ:=((Int×(Int×(Int×Unit)))×Unit)) F (fun(x2:(((Int×(Int×(Int×Unit)))×Unit)→(Option (Int×Unit))))=>(fun(x3:((Int×(Int×(Int×Unit)))×Unit))=>(br (leI 0 x3.1.2.2.1) (bnd (dT ((x3.1.1,x3.1.2.2),())) (fun(x4:(Int×Unit))=>(x2 ((x3.1.1,((aF IntKind.u64 (bq IntKind.u64 2 x3.1.2.1) (aH IntKind.u64 x4.1)),((aT IntKind.i64 x3.1.2.2.1 1),()))),())))) (some ((aH IntKind.i64 x3.1.2.1),()))))) ((x1.1.1,(0,((aT IntKind.i64 (bq IntKind.i64 8 x1.1.2.1) 1),()))),()))
def j4 (x1:((Int×Unit)×Unit)):Option (Bool×Unit):=
 (bnd (aA ((x1.1.1,(0,(65535,()))),())) (fun(x2:(Bool×Unit))=>(bnd (br x2.1 (some (eqI (gZ x1.1.1 256) 0)) (some Bool.false)) (fun(x3:Bool)=>(some (x3,()))))))
def j5 (x1:((Int×Unit)×Unit)):Option (Bool×Unit):=
 (bnd (aA ((x1.1.1,(0,(7,()))),())) (fun(x2:(Bool×Unit))=>(some x2)))
end Go.Den.G
end
end
namespace Go.Den.G
open Go.Den
def sx (m:Nat)(v:Int):Int:=if(v%2^64/2^m)%2=1 then v%2^(m+1)-2^(m+1)else v%2^(m+1)
theorem iX {n:Int}(h0:0≤n)(h1:n<2^64):IntKind.wrap .u64 n=n:=by
 simp only[IntKind.wrap,IntKind.bits,IntKind.signed,Bool.false_and,Bool.false_eq_true,if_false]
 exact Int.emod_eq_of_lt h0 h1
theorem zQ (n:Int):IntKind.wrap .u64 n=n%2^64:=by
 simp[IntKind.wrap,IntKind.bits,IntKind.signed]
theorem q5 (v i:Int)(h0:0≤i)(h1:i≤63):dT ((v,(i,())),())=some (v%2^64/2^i.toNat%2,()):=by
 unfold dT
 dsimp only
 have hw:aH IntKind.u64 i=i:=iX h0 (by omega)
 rw[hw,ag (fT h0)]
 have hi:min i.toNat 64=i.toNat:=by omega
 have e:gZ (dh IntKind.u64 (aH IntKind.u64 v) i) 2=v%2^64/2^i.toNat%2:=by
  unfold gZ dh aH
  rw[zQ]
  show Int.tmod (Int.fdiv (v%2^64) (2^(min i.toNat 64))) 2=_
  rw[hi]
  have hp:(0:Int)<2^i.toNat:=Int.pow_pos (by decide)
  rw[Int.fdiv_eq_ediv_of_nonneg _ (Int.le_of_lt hp),Int.tmod_eq_emod_of_nonneg (Int.ediv_nonneg (Int.emod_nonneg _ (by decide)) (Int.le_of_lt hp))]
 rw[e]
 rcases Int.emod_two_eq (v%2^64/2^i.toNat)with h|h
 ·rw[h,aB (aP (by decide))]
 ·rw[h,ag (bU rfl)]
def fq (m u:Nat):Nat:=2^(m+1)*((u/2^m%2)*(2^(63-m)-1))+u%2^(m+1)
theorem vz (m u i:Nat)(hm:m≤63)(hi:i≤63):fq m u/2^i%2=u/2^(min i m)%2:=by
 have hb:∀a j:Nat,a/2^j%2=(a.testBit j).toNat:=fun a j=>by rw[Nat.testBit_eq_decide_div_mod_eq];rcases Nat.mod_two_eq_zero_or_one (a/2^j)with h|h<;>simp[h]
 rw[hb,hb]
 congr 1
 unfold fq
 rw[Nat.testBit_two_pow_mul_add _ (Nat.mod_lt _ (Nat.two_pow_pos _))]
 split
 ·rename_i h
  rw[Nat.testBit_mod_two_pow,show min i m=i by omega]
  simp[h]
 ·rename_i h
  rw[show min i m=m by omega,hb]
  cases hs:u.testBit m with
  |false=>simp
  |true=>
   simp only[Bool.toNat_true,Nat.one_mul]
   rw[Nat.testBit_two_pow_sub_one]
   simp;omega
theorem nR (m u:Nat)(hm:m≤63):fq m u<2^64:=by
 unfold fq
 have h1:u%2^(m+1)<2^(m+1):=Nat.mod_lt _ (Nat.two_pow_pos _)
 have h2:(u/2^m%2)*(2^(63-m)-1)≤2^(63-m)-1:=by
  have:u/2^m%2≤1:=by omega
  calc _≤1*(2^(63-m)-1):=Nat.mul_le_mul_right _ this
   _=_:=Nat.one_mul _
 have h3:2^(m+1)*2^(63-m)=(2:Nat)^64:=by rw[←Nat.pow_add];congr 1;omega
 have h4:2^(m+1)*((u/2^m%2)*(2^(63-m)-1))≤2^(m+1)*(2^(63-m)-1):=Nat.mul_le_mul_left _ h2
 have h6:2^(m+1)*(2^(63-m)-1)=2^64-2^(m+1):=by rw[Nat.mul_sub,Nat.mul_one,h3]
 rw[h6]at h4
 have h5:(2:Nat)^(m+1)≤2^64:=Nat.pow_le_pow_right (by decide) (by omega)
 omega
def uns (v:Int):Nat:=(v%2^64).toNat
theorem bf (v:Int):((uns v:Nat):Int)=v%2^64:=by unfold uns;have:=Int.emod_nonneg v (show(2:Int)^64≠0 by decide);omega
theorem xA (m:Nat)(v:Int)(hm:m≤63):IntKind.wrap .i64 (fq m (uns v):Nat)=sx m v:=by
 have hlt:=nR m (uns v) hm
 have hu:=bf v
 have hp:((2^m:Nat):Int)=2^m:=by simp
 have hp1:((2^(m+1):Nat):Int)=2^(m+1):=by simp
 have hs:v%2^64/2^m%2=((uns v/2^m%2:Nat):Int):=by rw[←hu];simp
 have hr:v%2^(m+1)=((uns v%2^(m+1):Nat):Int):=by
  have h1:v%2^(m+1)=v%2^64%2^(m+1):=by
   rw[Int.emod_emod_of_dvd]
   exact⟨2^(63-m),by rw[←Int.pow_add];congr 1;omega⟩
  rw[h1,←hu];simp
 have hmod:uns v%2^(m+1)<2^(m+1):=Nat.mod_lt _ (Nat.two_pow_pos _)
 have h64:2^(m+1)*2^(63-m)=(2:Nat)^64:=by rw[←Nat.pow_add];congr 1;omega
 unfold sx
 rw[hs,hr]
 have hle:(2:Nat)^(m+1)≤2^64:=Nat.pow_le_pow_right (by decide) (by omega)
 have hdbl:(2:Nat)^(m+1)=2^m*2:=Nat.pow_succ 2 m
 have hle2:(2:Nat)^m≤2^63:=Nat.pow_le_pow_right (by decide) hm
 have hhi:uns v%2^(m+1)/2^m=uns v/2^m%2:=by rw[hdbl,Nat.mod_mul_right_div_self]
 rcases Nat.mod_two_eq_zero_or_one (uns v/2^m)with h|h
 ·rw[h,if_neg (by decide)]
  have e:fq m (uns v)=uns v%2^(m+1):=by unfold fq;rw[h];simp
  rw[e]
  have:uns v%2^(m+1)<2^m:=by
   rw[h]at hhi
   exact(Nat.div_eq_zero_iff.1 hhi).resolve_left (by have:=Nat.two_pow_pos m;omega)
  exact db (by unfold I64;omega)
 ·rw[h,if_pos (by rfl)]
  have e:fq m (uns v)+2^(m+1)=2^64+uns v%2^(m+1):=by
   unfold fq
   rw[h,Nat.one_mul,Nat.mul_sub,Nat.mul_one,h64]
   omega
  have h2:2^m≤uns v%2^(m+1):=by
   rw[h]at hhi
   have:=Nat.div_mul_le_self (uns v%2^(m+1)) (2^m)
   rw[hhi]at this;omega
  have:((fq m (uns v):Nat):Int)=((uns v%2^(m+1):Nat):Int)-2^(m+1)+2^64:=by rw[←hp1];omega
  rw[this]
  have hw:∀n:Int,IntKind.wrap .i64 (n+2^64)=IntKind.wrap .i64 n:=fun n=>by
   have h3:(n+2^64)%2^IntKind.i64.bits=n%2^IntKind.i64.bits:=Int.add_emod_right ..
   simp only[IntKind.wrap,h3]
  rw[hw]
  rw[←hp1]
  exact db (by unfold I64;omega)
theorem lH (v n:Int)(h0:1≤n)(h1:n≤8):cI ((v,(n,())),())=some (sx (8*n-1).toNat v,()):=by
 unfold cI
 obtain⟨k,hk⟩:∃k:Nat,n=k:=⟨n.toNat,by omega⟩
 subst hk
 generalize hm:(8*(k:Int)-1).toNat=m
 have hm63:m≤63:=by omega
 refine(iN (fun x=>x.1.1=v∧x.1.2.1=(k:Int)∧ -1≤x.1.2.2.2.1∧x.1.2.2.2.1≤63∧x.1.2.2.1=((fq m (uns v)/2^(x.1.2.2.2.1+1).toNat:Nat):Int)) (fun x=>(x.1.2.2.2.1+1).toNat)
  (fun _=>some (sx m v,())) ?_ F _ ⟨rfl,rfl,by show(-1:Int)≤63;decide,by show(63:Int)≤63;decide,?_⟩ (by show((63:Int)+1).toNat<F;decide)).trans rfl
 ·rintro⟨⟨v',k',acc,i,_⟩,_⟩ rec ⟨rfl,hk',h2,h3,hacc⟩ hrec
  dsimp only at hk' h2 h3 hacc hrec⊢
  subst hk'
  by_cases hi:0≤i
  ·obtain⟨j,rfl⟩:=Int.eq_ofNat_of_zero_le hi
   rw[ag (fT hi)]
   have e1:aT .i64 (bq .i64 8 (k:Int)) 1=(m:Int):=by
    rw[tY (by unfold I64;omega),nT (by unfold I64;omega)];omega
   rw[e1]
   have e2:jk (j:Int) (m:Int)=((min j m:Nat):Int):=by unfold jk;split<;>omega
   rw[e2,q5 _ _ (by omega) (by omega),af]
   dsimp only
   have e3:v'%2^64/2^(((min j m:Nat):Int)).toNat%2=((fq m (uns v')/2^j%2:Nat):Int):=by
    rw[vz m _ j hm63 (by omega),←bf];simp
   rw[e3]
   have hlt:=nR m (uns v') hm63
   have e4:fq m (uns v')/2^(((j:Int)+1).toNat)=fq m (uns v')/2^j/2:=by
    rw[show((j:Int)+1).toNat=j+1 by omega,Nat.pow_succ,Nat.div_div_eq_div_mul]
   rw[e4]at hacc
   generalize hq:fq m (uns v')/2^j=q at hacc⊢
   have hq2:q<2^64:=by rw[←hq];exact Nat.lt_of_le_of_lt (Nat.div_le_self _ _) hlt
   have e5:aF .u64 (bq .u64 2 acc) (aH .u64 ((q%2:Nat):Int))=(q:Int):=by
    unfold aF bq aH
    rw[hacc,iX (n:=2*((q/2:Nat):Int)) (by omega) (by omega),iX (n:=((q%2:Nat):Int)) (by omega) (by omega),iX (by omega) (by omega)]
    omega
   rw[e5,nT (by unfold I64;omega)]
   refine hrec _ ⟨rfl,rfl,by dsimp only;omega,by dsimp only;omega,?_⟩ (by dsimp only;omega)
   dsimp only
   rw[show((j:Int)-1+1).toNat=j by omega,hq]
  ·rw[aB (jP hi)]
   have:i= -1:=by omega
   subst this
   rw[hacc]
   have:fq m (uns v')/2^((-1:Int)+1).toNat=fq m (uns v'):=by simp
   rw[this]
   show some (IntKind.wrap .i64 _,())=_
   rw[xA m v' hm63]
 ·have hlt:=nR m (uns v) hm63
  show(0:Int)=((fq m (uns v)/2^((63:Int)+1).toNat:Nat):Int)
  rw[show((63:Int)+1).toNat=64 from rfl,Nat.div_eq_of_lt hlt];rfl
theorem kB (v n:Int)(h0:1≤n)(h1:n≤8):ba ((v,(n,())),())=some (sx (8*n-1).toNat v,()):=by
 unfold ba
 dsimp only
 have e:aT .i64 64 (bq .i64 8 n)=64-8*n:=by rw[tY (by unfold I64;omega),nT (by unfold I64;omega)]
 rw[e,ag (fT (by omega)),ag (fT (by omega))]
 congr 2
 obtain⟨m,hm⟩:∃m:Nat,8*n-1=m:=⟨(8*n-1).toNat,by omega⟩
 have hn:64-8*n=((63-m:Nat):Int):=by omega
 rw[hm,hn]
 have hm63:m≤63:=by omega
 simp only[Int.toNat_natCast]
 unfold dh gP
 rw[show min (((63-m:Nat):Int)).toNat IntKind.i64.bits=63-m by simp[IntKind.bits];omega]
 have hp:(0:Int)<2^(63-m):=Int.pow_pos (by decide)
 rw[Int.fdiv_eq_ediv_of_nonneg _ (Int.le_of_lt hp)]
 have h64:(2:Int)^(m+1)*2^(63-m)=2^64:=by rw[←Int.pow_add];congr 1;omega
 have h63:(2:Int)^m*2^(63-m)=2^63:=by rw[←Int.pow_add];congr 1;omega
 have hr:=Int.emod_nonneg v (show(2:Int)^(m+1)≠0 from Int.ne_of_gt (Int.pow_pos (by decide)))
 have hr2:=Int.emod_lt_of_pos v (show(0:Int)<2^(m+1)from Int.pow_pos (by decide))
 have hsv:v%2^64/2^m%2=v%2^(m+1)/2^m:=by
  have h1:v%2^(m+1)=v%2^64%2^(m+1):=by
   rw[Int.emod_emod_of_dvd]
   exact⟨2^(63-m),h64.symm⟩
  rw[h1,Int.pow_succ 2 m]
  have hu:=bf v
  rw[←hu]
  have:((2:Int)^m)=((2^m:Nat):Int):=by simp
  rw[this]
  have h2:((2^m:Nat):Int)*2=((2^m*2:Nat):Int):=by simp
  rw[h2]
  rw[←Int.natCast_ediv,←Int.natCast_emod,←Int.natCast_ediv,Nat.mod_mul_right_div_self]
  simp
 have hdm:v=v%2^(m+1)+2^(m+1)*(v/2^(m+1)):=(Int.emod_add_mul_ediv ..).symm
 have hmul:v*2^(63-m)%2^64=v%2^(m+1)*2^(63-m):=by
  rw[←h64,Int.mul_comm v,Int.mul_comm (2^(m+1)),Int.mul_emod_mul_of_pos _ _ hp,Int.mul_comm]
 unfold sx
 rw[hsv]
 generalize v%2^(m+1)=r at*
 have hpm:(0:Int)<2^m:=Int.pow_pos (by decide)
 have hdbl:(2:Int)^(m+1)=2^m*2:=Int.pow_succ 2 m
 simp only[IntKind.wrap,IntKind.bits,IntKind.signed,Bool.true_and,decide_eq_true_eq,ge_iff_le]
 rw[show((64:Nat)-1)=63 from rfl,hmul]
 by_cases hs:(2:Int)^m≤r
 ·have hq:r/2^m=1:=by
   rw[Int.ediv_eq_iff_of_pos hpm]
   omega
  rw[hq,if_pos rfl]
  have hge:(2:Int)^63≤r*2^(63-m):=by rw[←h63];exact Int.mul_le_mul_of_nonneg_right hs (Int.le_of_lt hp)
  rw[if_pos hge,←h64,←Int.sub_mul,Int.mul_ediv_cancel _ (Int.ne_of_gt hp)]
 ·have hq:r/2^m=0:=Int.ediv_eq_zero_of_lt hr (by omega)
  rw[hq]
  have hge:¬(2:Int)^63≤r*2^(63-m):=by
   rw[←h63,Int.not_le]
   exact Int.mul_lt_mul_of_pos_right (by omega) hp
  rw[if_neg hge,if_neg (by decide),Int.mul_ediv_cancel _ (Int.ne_of_gt hp)]
theorem fits_eq (v n:Int)(h0:1≤n)(h1:n≤4):cm ((v,(n,())),())=bm ((v,(n,())),()):=by
 unfold cm bm
 dsimp only
 rw[kB v n h0 (by omega),show jk n 4=n by unfold jk;split<;>omega,lH v n h0 (by omega)]
def fitsB (v n:Int):Bool:=eqI (sx (8*n-1).toNat v) v
theorem lJ (v n:Int)(h0:1≤n)(h1:n≤4):bm ((v,(n,())),())=some (fitsB v n,()):=by
 unfold bm
 dsimp only
 rw[show jk n 4=n by unfold jk;split<;>omega,lH v n h0 (by omega),af]
 rfl
set_option maxRecDepth 100000
def pg (m:List Page)(i:Int):Page:=aQ m i (aD .page)
def inB (a b c:Int):Bool:=decide (b≤a)&&decide (a≤c)
theorem pI (a b c:Int):aA ((a,(b,(c,()))),())=some (inB a b c,()):=by
 unfold aA inB
 dsimp only
 by_cases h:b≤a
 ·rw[ag (fT h),af];simp[leI,h]
 ·rw[aB (jP h),af];simp[h]
theorem jG (a b c:Int):ar ((a,(b,(c,()))),())=some (inB a b c,()):=pI a b c
def jn (b:Int):Bool:=inB b 0 65535&&eqI (gZ b 256) 0
def l6 (p:Int):Bool:=inB p 0 7
theorem uV (b:Int):j4 ((b,()),())=some (jn b,()):=by
 unfold j4 jn
 rw[pI,af]
 dsimp only
 cases inB b 0 65535<;>simp[bn,aL,af]
theorem wz (b:Int):gg ((b,()),())=some (jn b,()):=uV b
theorem uW (b:Int):j5 ((b,()),())=some (l6 b,()):=by
 unfold j5 l6
 rw[pI,af]
theorem wC (b:Int):gi ((b,()),())=some (l6 b,()):=uW b
def good (m:List Page)(i:Int):Bool:=
 jn (pg m i).base&&(l6 (pg m i).perm&&(eqI ((pg m i).data.length:Int) 256&&(!decide (0<i)||ltI (pg m (i-1)).base (pg m i).base)))
def j8 (m:List Page)(i:Nat):Bool:=(List.range' i (m.length-i)).all fun j=>good m j
theorem sI {m:List Page}{i:Nat}(h:i<m.length):j8 m i=(good m i&&j8 m (i+1)):=by
 unfold j8
 rw[show m.length-i=(m.length-(i+1))+1 by omega,List.range'_succ]
 rfl
theorem vh {m:List Page}{i:Nat}(h:m.length≤i):j8 m i=true:=by
 unfold j8
 rw[show m.length-i=0 by omega];rfl
def va (m:List Page):Bool:=decide ((m.length:Int)≤32)&&j8 m 0
theorem uN (m:List Page)(i:Nat):good m i=(jn (pg m i).base&&(l6 (pg m i).perm&&(eqI ((pg m i).data.length:Int) 256&&(!decide (0<(i:Int))||ltI (pg m ((i:Int)-1)).base (pg m i).base)))):=rfl
theorem wK (a b:Int):leI a b= !ltI b a:=by unfold leI ltI;by_cases h:a≤b<;>simp[h]<;>omega
theorem ml (m:List Page)(hm:(m.length:Int)<4611686018427387904)(hF:m.length<F):dE (((m,()),()),())=some (va m,()):=by
 unfold dE va
 simp only[cQ]
 refine(iN (fun x=>x.2.1.1=m∧x.1.1=m∧x.1.2.1=(m.length:Int)∧0≤x.1.2.2.1∧x.1.2.2.1≤(m.length:Int)) (fun x=>m.length-x.1.2.2.1.toNat) (fun x=>some (decide ((m.length:Int)≤32)&&j8 m x.1.2.2.1.toNat,())) ?_ F _ ?_ ?_).trans ?_
 ·rintro⟨⟨ys,len,i,_⟩,⟨xs,_⟩,_⟩ rec ⟨rfl,h2,h3,h0,h1⟩ hrec
  dsimp only at h0 h1 h2 h3 hrec hm hF⊢
  subst h2
  subst h3
  by_cases hi:i<ys.length
  ·obtain⟨n,rfl⟩:=Int.eq_ofNat_of_zero_le h0
   have hn:n<ys.length:=by omega
   rw[ag (nX hi),ag (cj h0 hi),wz,af]
   dsimp only
   have hst:rec ((ys,((ys.length:Int),((aF IntKind.i64 (n:Int) 1),()))),((ys,()),()))=some (decide ((ys.length:Int)≤32)&&j8 ys (n+1),()):=by
    rw[gS (by unfold I64;omega)]
    rw[hrec _ ⟨rfl,rfl,rfl,by dsimp only;omega,by dsimp only;omega⟩ (by dsimp only;omega)]
    rfl
   rw[hst,Int.toNat_natCast,sI hn,uN]
   show _=some (_&&((jn (aQ ys (n:Int) (aD .page)).base&&_)&&_),())
   cases jn (aQ ys (n:Int) (aD .page)).base
   ·simp[kT,bn]
   ·rw[kT,Bool.not_true,aL,wC,af]
    dsimp only
    show _=some (_&&((true&&(l6 (aQ ys (n:Int) (aD .page)).perm&&_))&&_),())
    cases l6 (aQ ys (n:Int) (aD .page)).perm
    ·simp[kT,bn]
    ·rw[kT,Bool.not_true,aL,kT]
     show _=some (_&&((true&&(true&&(eqI ((aQ ys (n:Int) (aD .page)).data.length:Int) 256&&_)))&&_),())
     cases eqI ((aQ ys (n:Int) (aD .page)).data.length:Int) 256
     ·simp[bn]
     ·rw[Bool.not_true,aL]
      by_cases hp:0<(n:Int)
      ·rw[ag (nX hp),nT (by unfold I64;omega),ag (cj (by omega) (by omega)),wK]
       show _=some (_&&((true&&(true&&(true&&(!decide (0<(n:Int))||ltI (aQ ys ((n:Int)-1) (aD .page)).base (aQ ys (n:Int) (aD .page)).base))))&&_),())
       rw[show decide (0<(n:Int))=true from decide_eq_true hp]
       cases ltI (aQ ys ((n:Int)-1) (aD .page)).base (aQ ys (n:Int) (aD .page)).base
       ·simp[bn]
       ·simp[aL]
      ·rw[aB (nW hp),show decide (0<(n:Int))=false from decide_eq_false hp];simp
  ·rw[aB (nW hi),vh (by omega)]
   simp[leI]
 ·exact⟨rfl,rfl,rfl,by simp,by simp⟩
 ·simpa using hF
 ·simp
def leN:List UInt8→Nat
 |[]=>0
 |b::r=>b.toNat+256*leN r
theorem Ab:∀(t:List UInt8),leN t<256^t.length
 |[]=>by simp[leN]
 |b::r=>by
  have:=Ab r
  have hb:b.toNat<256:=b.toNat_lt
  simp only[leN,List.length_cons,Nat.pow_succ]
  omega
theorem tT:∀(t:List UInt8) (k:Nat) (h:k<t.length),leN (t.take (k+1))=leN (t.take k)+t[k].toNat*256^k
 |[],k,h=>by simp at h
 |b::r,0,_=>by simp[leN]
 |b::r,k+1,h=>by
  have hk:k<r.length:=by simpa using h
  have:=tT r k hk
  simp only[List.take_succ_cons,leN,List.getElem_cons_succ,Nat.pow_succ]at this⊢
  rw[this,Nat.mul_add]
  have:256*(r[k].toNat*256^k)=r[k].toNat*(256^k*256):=by rw[Nat.mul_left_comm,Nat.mul_comm 256 (256^k)]
  omega
theorem uz {t:List UInt8}{k:Nat}(h:k<t.length):fR t (k:Int)=(t[k].toNat:Int):=by simp[fR,h]
theorem vg (x:Int):BitVec.ofInt 64 (IntKind.wrap .i64 x)=BitVec.ofInt 64 x:=by
 apply BitVec.eq_of_toNat_eq
 simp only[BitVec.toNat_ofInt,IntKind.wrap,IntKind.bits,IntKind.signed,Bool.true_and,decide_eq_true_eq,ge_iff_le]
 simp only[show(2:Int)^64=18446744073709551616 from rfl,show(2:Int)^(64-1)=9223372036854775808 from rfl,show((2^64:Nat):Int)=18446744073709551616 from rfl]
 split<;>omega
theorem yU (a c k:Nat)(ha:a<2^k)(hc:a+c*2^k<18446744073709551616):ior .i64 (a:Int) (IntKind.wrap .i64 ((c:Int)*2^k))=IntKind.wrap .i64 ((a+c*2^k:Nat):Int):=by
 unfold ior
 rw[show IntKind.i64.bits=64 from rfl,vg]
 congr 1
 rw[BitVec.toNat_or]
 have e1:(BitVec.ofInt 64 (a:Int)).toNat=a:=by
  rw[BitVec.toNat_ofInt];simp only[show((2^64:Nat):Int)=18446744073709551616 from rfl];omega
 have e2:(BitVec.ofInt 64 ((c:Int)*2^k)).toNat=c*2^k:=by
  rw[BitVec.toNat_ofInt];simp only[show((2^64:Nat):Int)=18446744073709551616 from rfl]
  rw[show((c:Int)*2^k)=((c*2^k:Nat):Int)by simp]
  omega
 rw[e1,e2,Nat.or_comm,←Nat.shiftLeft_eq,←Nat.shiftLeft_add_eq_or_of_lt ha,Nat.shiftLeft_eq,Nat.add_comm]
theorem take_eq (t:List UInt8)(h8:t.length≤8):gA ((t,()),())=some (IntKind.wrap .i64 (leN t),()):=by
 unfold gA
 simp only[cQ]
 refine(iN (fun x=>x.1.1=t∧x.1.2.2.1=(t.length:Int)∧0≤x.1.2.2.2.1∧x.1.2.2.2.1≤(t.length:Int)∧x.1.2.1=IntKind.wrap .i64 (leN (t.take x.1.2.2.2.1.toNat))) (fun x=>t.length-x.1.2.2.2.1.toNat) (fun _=>some (IntKind.wrap .i64 (leN t),())) ?_ F _ ?_ ?_)
 ·rintro⟨⟨s,acc,len,i,_⟩,_⟩ rec ⟨rfl,hz,h0,h1,h2⟩ hrec
  dsimp only at hz h0 h1 h2 hrec h8⊢
  subst hz
  by_cases hi:i<s.length
  ·obtain⟨n,rfl⟩:=Int.eq_ofNat_of_zero_le h0
   have hn:n<s.length:=by omega
   have hlt:=Ab (s.take n)
   rw[List.length_take,Nat.min_eq_left (by omega)]at hlt
   have hb:s[n].toNat<256:=s[n].toNat_lt
   have hpow:256^n≤256^7:=Nat.pow_le_pow_right (by decide) (by omega)
   rw[show(256:Nat)^7=72057594037927936 from rfl]at hpow
   have h256:(256:Nat)^n=2^(8*n):=by rw[Nat.pow_mul]
   rw[Int.toNat_natCast]at h2
   rw[ag (nX hi),ag (cj h0 hi),tY (by unfold I64;omega),ag (fT (by omega)),uz hn,uo (by unfold I64;omega)]
   rw[hrec _ ⟨rfl,rfl,?_,?_,?_⟩ ?_]
   ·dsimp only;rw[gS (by unfold I64;omega)];omega
   ·dsimp only;rw[gS (by unfold I64;omega)];omega
   ·dsimp only
    rw[gS (by unfold I64;omega),show((n:Int)+1).toNat=n+1 by omega,tT s n hn,h2,db (n:=(leN (s.take n):Int)) (by unfold I64;omega)]
    unfold gP
    rw[show min (8*(n:Int)).toNat IntKind.i64.bits=8*n by rw[show IntKind.i64.bits=64 from rfl];omega]
    have hmul:s[n].toNat*256^n≤255*256^n:=Nat.mul_le_mul_right _ (by omega)
    have:=yU (leN (s.take n)) s[n].toNat (8*n) (by rw[←h256];exact hlt) (by rw[←h256];omega)
    rw[this,h256]
   ·dsimp only;rw[gS (by unfold I64;omega)];omega
  ·obtain rfl:i=s.length:=by omega
   rw[aB (nW hi),h2,Int.toNat_natCast,List.take_length]
 ·refine⟨rfl,rfl,by dsimp only;omega,by dsimp only;omega,?_⟩
  rfl
 ·simp[F];omega
structure MemR (m:List Page):Prop where
 len:m.length≤32
 pg:∀x∈m,0≤x.base∧x.base≤65280∧x.base%256=0∧x.data.length=256
theorem uT {b:Int}(h:jn b=true):0≤b∧b≤65280∧b%256=0:=by
 simp only[jn,inB,Bool.and_eq_true,decide_eq_true_eq,eqI]at h
 obtain⟨⟨h0,h1⟩,h2⟩:=h
 have h2:b.tmod 256=0:=h2
 rw[Int.tmod_eq_emod_of_nonneg h0]at h2
 omega
theorem memOK_r {m:List Page}(h:va m=true):MemR m:=by
 simp only[va,Bool.and_eq_true,decide_eq_true_eq,j8,List.all_eq_true]at h
 refine⟨by omega,fun x hx=>?_⟩
 obtain⟨i,hi,rfl⟩:=List.getElem_of_mem hx
 have:=h.2 i (by rw[List.mem_range'];exact⟨i,by omega,by omega⟩)
 unfold good pg at this
 rw[iL hi]at this
 simp only[Bool.and_eq_true,eqI,decide_eq_true_eq]at this
 obtain⟨h1,_,h3,_⟩:=this
 obtain⟨a,b,c⟩:=uT h1
 exact⟨a,b,c,by omega⟩
def gp (p:Page→Bool):List Page→Nat→Int
 |[],_=> -1
 |x::r,i=>if p x=true then(i:Int)else gp p r (i+1)
theorem iJ (p:Page→Bool):∀(m:List Page) (i:Nat),(gp p m i= -1∧∀x∈m,p x=false)∨∃j,∃h:j<m.length,gp p m i=((i+j:Nat):Int)∧p m[j]=true
 |[],_=> .inl ⟨rfl,by simp⟩
 |x::r,i=>by
  simp only[gp]
  cases hx:p x with
  |true=>exact .inr ⟨0,by simp,by simp,by simpa using hx⟩
  |false=>
   rcases iJ p r (i+1)with ⟨h1,h2⟩|⟨j,h,h1,h2⟩
   ·refine .inl ⟨by simpa using h1,fun y hy=>?_⟩
    rcases List.mem_cons.1 hy with rfl|hy
    ·exact hx
    ·exact h2 y hy
   ·refine .inr ⟨j+1,by simp;omega,?_,by simpa using h2⟩
    rw[if_neg (by simp),h1]
    congr 1;omega
theorem pz {p:Page→Bool}{m:List Page}{i:Nat}(h:∀x∈m,p x=false):gp p m i= -1:=by
 rcases iJ p m i with h1|⟨j,hj,_,h2⟩
 ·exact h1.1
 ·rw[h _ (List.getElem_mem hj)]at h2;cases h2
def l5 (a:Int)(x:Page):Bool:=decide (x.base≤a)&&decide (a-x.base<256)
def fnd (m:List Page)(a:Int):Int:=gp (l5 a) m 0
theorem qV (m:List Page)(hm:MemR m)(a:Int)(h0:0≤a)(h1:a≤65535):aG ((m,()),((a,()),()))=some (fnd m a,((a,()),())):=by
 unfold aG cu
 simp only[cQ]
 refine(iN (fun x=>x.1.1=m∧x.1.2.1=(m.length:Int)∧x.2.1.1=a∧0≤x.1.2.2.1∧x.1.2.2.1≤(m.length:Int)) (fun x=>m.length-x.1.2.2.1.toNat) (fun x=>some (gp (l5 a) (m.drop x.1.2.2.1.toNat) x.1.2.2.1.toNat,((a,()),()))) ?_ F _ ?_ ?_).trans ?_
 ·rintro⟨⟨xs,len,i,_⟩,⟨b,_⟩,_⟩ rec ⟨h2,h3,h4,h5,h6⟩ hrec
  dsimp only at h5 h6 h2 h3 h4 hrec⊢
  subst h2
  subst h3
  subst h4
  have hlen:=hm.len
  by_cases hi:i<xs.length
  ·obtain⟨n,rfl⟩:=Int.eq_ofNat_of_zero_le h5
   have hn:n<xs.length:=by omega
   rw[ag (nX hi),ag (cj h5 hi),af,iL hn,Int.toNat_natCast,List.drop_eq_getElem_cons hn,gp]
   dsimp only
   obtain⟨p0,p1,p2,_⟩:=hm.pg _ (List.getElem_mem hn)
   have hst:rec ((xs,((xs.length:Int),(aF IntKind.i64 (n:Int) 1,()))),((b,()),()))=some (gp (l5 b) (xs.drop (n+1)) (n+1),((b,()),())):=by
    rw[gS (by unfold I64;omega)]
    rw[hrec _ ⟨rfl,rfl,rfl,by dsimp only;omega,by dsimp only;omega⟩ (by dsimp only;omega)]
    rfl
   rw[hst,show gZ b 256=b%256 from Int.tmod_eq_emod_of_nonneg h0,nT (by unfold I64;omega)]
   by_cases hc:xs[n].base=b-b%256
   ·rw[ag (bU hc),if_pos (by simp only[l5,Bool.and_eq_true,decide_eq_true_eq];omega)]
   ·rw[aB (aP hc),if_neg (by simp only[l5,Bool.and_eq_true,decide_eq_true_eq];omega)]
  ·rw[aB (nW hi),List.drop_eq_nil_of_le (by omega)];rfl
 ·exact⟨rfl,rfl,rfl,by simp,by simp⟩
 ·have:=hm.len;simp[F];omega
 ·rfl
theorem sj {m:List Page}(hm:MemR m){a:Int}(h:¬(0≤a∧a≤65535)):fnd m a= -1:=by
 refine pz fun x hx=>?_
 obtain⟨p0,p1,p2,_⟩:=hm.pg x hx
 simp only[l5,Bool.and_eq_false_iff,decide_eq_false_iff_not]
 omega
theorem nA (m:List Page)(hm:MemR m)(a:Int):aZ (((m,()),(a,())),())=some (fnd m a,()):=by
 unfold aZ
 rw[jG,af]
 dsimp only
 by_cases h:0≤a∧a≤65535
 ·rw[aB (by simp[aX,inB,h.1,h.2]),qV m hm a h.1 h.2,af]
 ·rw[ag (by simp only[aX,inB,Bool.not_eq_true',Bool.and_eq_false_iff,decide_eq_false_iff_not];omega),sj hm h]
theorem pB {m:List Page}(hm:MemR m)(a:Int):fnd m a= -1∨∃j,∃h:j<m.length,fnd m a=(j:Int)∧m[j].base≤a∧a-m[j].base<256∧0≤a∧a≤65535∧a-m[j].base=a%256∧m[j].data.length=256:=by
 rcases iJ (l5 a) m 0 with ⟨h,_⟩|⟨j,hj,h1,h2⟩
 ·exact .inl h
 ·obtain⟨p0,p1,p2,p3⟩:=hm.pg _ (List.getElem_mem hj)
  simp only[l5,Bool.and_eq_true,decide_eq_true_eq]at h2
  exact .inr ⟨j,hj,by rw[Nat.zero_add]at h1;exact h1,h2.1,h2.2,by omega,by omega,by omega,p3⟩
def dB (m:List Page)(a perm:Int):Nat→Int→Int
 |0,_=>0
 |j+1,k=>if fnd m (a+k)<0 then 13 else if ec .i64 (aQ m (fnd m (a+k)) (aD .page)).perm perm=0 then 14 else dB m a perm j (k+1)
theorem uJ {m:List Page}(hm:MemR m){a perm:Int}(h:¬(0≤a∧a≤65535))(j:Nat):dB m a perm (j+1) 0=13:=by
 rw[dB,Int.add_zero,sj hm h];rfl
theorem wh {m:List Page}(hm:MemR m){a:Int}(h:¬fnd m a<0):inR (fnd m a) (m.length:Int)=true:=by
 rcases pB hm a with h1|⟨j,hj,h1,_⟩
 ·rw[h1]at h;exact absurd (by decide) h
 ·rw[h1];exact cj (by omega) (by omega)
theorem kP (m:List Page)(hm:MemR m)(a perm:Int)(n:Nat)(hn8:n≤64)(ha:I64 a)(hp0:perm≠0)(hn:1≤n):bF (((m,()),(a,((n:Int),(perm,())))),())=some (dB m a perm n 0,()):=by
 unfold bF
 simp only[cQ]
 refine(iN (fun x=>x.2.1.1=m∧x.1.1=a∧x.1.2.2.1=(n:Int)∧x.1.2.1=perm∧0≤x.1.2.2.2.1∧x.1.2.2.2.1≤(n:Int)∧(x.1.2.2.2.1=0∨(0≤a∧a≤65535))) (fun x=>n-x.1.2.2.2.1.toNat) (fun x=>some (dB m a perm (n-x.1.2.2.2.1.toNat) x.1.2.2.2.1,())) ?_ F _ ?_ ?_).trans ?_
 ·rintro⟨⟨b,p,l,i,_⟩,⟨xs,_⟩,_⟩ rec ⟨h2,h3,h4,h5,h0,h1,h6⟩ hrec
  dsimp only at h0 h1 h2 h3 h4 h5 h6 hrec⊢
  subst h2 h3 h4 h5
  by_cases hi:i<(n:Int)
  ·obtain⟨k,rfl⟩:=Int.eq_ofNat_of_zero_le h0
   rw[ag (nX hi),nA xs hm,af]
   dsimp only
   have hst:n-((k:Int)).toNat=(n-(k+1))+1:=by omega
   rw[hst]
   by_cases hr:0≤b∧b≤65535
   ·rw[gS (by unfold I64;omega),dB]
    by_cases hf:fnd xs (b+k)<0
    ·rw[ag (nX hf),if_pos hf]
    ·rw[aB (nW hf),if_neg hf,ag (wh hm hf),ag (by rw[aP hp0];rfl),af]
     by_cases hp:ec .i64 (aQ xs (fnd xs (b+k)) (aD .page)).perm p=0
     ·rw[ag (bU hp),if_pos hp]
     ·rw[aB (aP hp),if_neg hp,gS (by unfold I64;omega)]
      rw[hrec _ ⟨rfl,rfl,rfl,rfl,by dsimp only;omega,by dsimp only;omega,.inr hr⟩ (by dsimp only;omega)]
      dsimp only
      rw[show n-((k:Int)+1).toNat=n-(k+1)by omega]
   ·have hk:k=0:=by omega
    subst hk
    rw[show((0:Nat):Int)=0 from rfl,uJ hm hr,gS (by unfold I64 at *;omega),Int.add_zero,sj hm hr]
    rfl
  ·have:i=n:=by omega
   subst this
   rw[aB (nW hi),Int.toNat_natCast,Nat.sub_self];rfl
 ·exact⟨rfl,rfl,rfl,rfl,by simp,by simp,.inl rfl⟩
 ·simp[F];omega
 ·rfl
theorem mR {m:List Page}(hm:MemR m){a perm:Int}:∀(j k0:Nat),dB m a perm j k0=0→∀k,k0≤k→k<k0+j→¬fnd m (a+(k:Nat))<0
 |0,k0,_,k,h1,h2=>by omega
 |j+1,k0,h,k,h1,h2=>by
  rw[dB]at h
  split at h
  ·cases h
  ·rename_i hf
   split at h
   ·cases h
   ·by_cases hk:k=k0
    ·subst hk;exact hf
    ·exact mR hm j (k0+1) (by exact_mod_cast h) k (by omega) (by omega)
def uA (m:List Page)(a:Int):Int:=fR (aQ m (fnd m a) (aD .page)).data (a%256)
theorem ym (m:List Page)(hm:MemR m)(a:Int)(n:Nat)(hn8:n≤64)(ha:I64 a)(hok:∀k,k<n→¬fnd m (a+(k:Nat))<0):cl (((m,()),(a,((n:Int),()))),())=some (iU ((List.range n).map fun k=>uA m (a+(k:Nat))),()):=by
 unfold cl
 simp only[cQ]
 rw[ag (uP (by omega) (Int.le_refl _)),ag (wu (by omega))]
 refine(iN (fun x=>x.2.1.1=m∧x.1.1=a∧x.1.2.1=(n:Int)∧0≤x.1.2.2.1∧x.1.2.2.1≤(n:Int)∧x.2.2.1=((List.range x.1.2.2.1.toNat).map fun k=>uA m (a+(k:Nat)))++List.replicate (n-x.1.2.2.1.toNat) 0) (fun x=>n-x.1.2.2.1.toNat) (fun _=>some (iU ((List.range n).map fun k=>uA m (a+(k:Nat))),())) ?_ F _ ?_ ?_)
 ·rintro⟨⟨b,l,i,_⟩,⟨xs,_⟩,out,_⟩ rec ⟨h2,h3,h4,h0,h1,h5⟩ hrec
  dsimp only at h0 h1 h2 h3 h4 h5 hrec⊢
  subst h2 h3 h4
  by_cases hi:i<(n:Int)
  ·obtain⟨k,rfl⟩:=Int.eq_ofNat_of_zero_le h0
   rw[Int.toNat_natCast]at h5
   have hk:=hok k (by omega)
   rcases pB hm (b+k)with h7|⟨j,hj,h7,h8,h9,h10,h11,h12,h13⟩
   ·rw[h7]at hk;exact absurd (by decide) hk
   ·have hb:I64 (b+k):=by unfold I64;omega
    have hol:out.length=n:=by rw[h5];simp;omega
    rw[ag (nX hi),gS hb,nA xs hm,af]
    dsimp only
    rw[ag (wh hm hk),show gZ (b+(k:Int)) 256=(b+k)%256 from Int.tmod_eq_emod_of_nonneg h10,h7,iL hj,ag (cj (by omega) (by omega))]
    have hbyte:fR xs[j].data ((b+(k:Int))%256)=uA xs (b+k):=by rw[uA,h7,iL hj]
    rw[hbyte,ag (cj h0 (by omega)),gS (by unfold I64;omega)]
    refine hrec _ ⟨rfl,rfl,rfl,by dsimp only;omega,by dsimp only;omega,?_⟩ (by dsimp only;omega)
    dsimp only
    rw[show((k:Int)+1).toNat=k+1 by omega,List.range_succ,List.map_append,h5]
    unfold cF
    rw[Int.toNat_natCast,List.set_append_right _ _ (by simp),List.length_map,List.length_range,Nat.sub_self,show n-k=(n-(k+1))+1 by omega,List.replicate_succ]
    simp
  ·have:i=n:=by omega
   subst this
   rw[aB (nW hi),h5,Int.toNat_natCast,Nat.sub_self]
   simp
 ·refine⟨rfl,rfl,by simp[nZ],by simp,by simp,?_⟩
  simp[nZ,aD]
 ·simp[F];omega
def cM (n:Int):Bool:=eqI n 1||(eqI n 2||(eqI n 4||eqI n 8))
theorem y3 {n:Int}(h:cM n=true):∃k:Nat,n=(k:Int)∧1≤k∧k≤8:=by
 simp only[cM,eqI,Bool.or_eq_true,decide_eq_true_eq]at h
 exact⟨n.toNat,by omega,by omega,by omega⟩
theorem xK (xs:List Int):(iU xs).length=xs.length:=by simp[iU]
def q7 (m:List Page)(a:Int)(n:Nat):Int×Int:=
 if dB m a 1 n 0=0 then(IntKind.wrap .i64 (leN (iU ((List.range n).map fun k=>uA m (a+(k:Nat))))),0)else(0,dB m a 1 n 0)
theorem load_ok {m:List Page}(hm:MemR m){a:Int}{n:Nat}(h:dB m a 1 n 0=0):∀k,k<n→¬fnd m (a+(k:Nat))<0:=fun k hk=>
 mR hm n 0 h k (Nat.zero_le _) (by omega)
theorem qU (m:List Page)(hm:MemR m)(a:Int)(n:Nat)(hn:1≤n)(hn8:n≤8)(ha:I64 a):cA (((m,()),(a,((n:Int),()))),())=some (((q7 m a n).1,((q7 m a n).2,())),()):=by
 unfold cA q7
 dsimp only
 rw[kP m hm a 1 n (by omega) ha (by decide) hn,af]
 by_cases h:dB m a 1 n 0=0
 ·rw[aB (by rw[h];rfl),ym m hm a n (by omega) ha (load_ok hm h),af,if_pos h]
  dsimp only
  rw[take_eq _ (by rw[xK];simpa using hn8),af]
 ·rw[ag (by rw[aP h];rfl),if_neg h]
def pgN (m:List Page)(i:Nat):Page:=m.getD i (aD .page)
theorem Am (m:List Page)(i:Nat):pg m (i:Int)=pgN m i:=by simp[pg,pgN,aQ]
theorem lO {m:List Page}{i:Nat}(h:i<m.length):pgN m i=m[i]:=by simp[pgN,h]
structure MemT (m:List Page):Prop where
 len:m.length≤32
 pg:∀i,i<m.length→0≤(pgN m i).base∧(pgN m i).base≤65280∧(pgN m i).base%256=0∧0≤(pgN m i).perm∧(pgN m i).perm≤7∧(pgN m i).data.length=256
 ord:∀i,i+1<m.length→(pgN m i).base<(pgN m (i+1)).base
theorem yW {b:Int}(h0:0≤b)(h1:b≤65280)(h2:b%256=0):jn b=true:=by
 simp only[jn,inB,Bool.and_eq_true,decide_eq_true_eq,eqI]
 refine⟨⟨h0,by omega⟩,?_⟩
 show b.tmod 256=0
 rw[Int.tmod_eq_emod_of_nonneg h0];exact h2
theorem MemT.ok {m:List Page}(h:MemT m):va m=true:=by
 simp only[va,Bool.and_eq_true,decide_eq_true_eq,j8,List.all_eq_true]
 refine⟨by have:=h.len;omega,fun i hi=>?_⟩
 rw[List.mem_range']at hi
 obtain⟨k,hk,rfl⟩:=hi
 rw[Nat.one_mul,Nat.zero_add]
 have hk:k<m.length:=by omega
 obtain⟨a,b,c,d,e,f⟩:=h.pg k hk
 unfold good
 rw[Am]
 simp only[Bool.and_eq_true,Bool.or_eq_true,Bool.not_eq_true',decide_eq_false_iff_not,mb]
 refine⟨yW a b c,?_,by rw[ca];omega,?_⟩
 ·simp only[l6,inB,Bool.and_eq_true,decide_eq_true_eq];omega
 ·cases k with
  |zero=>exact .inl (by omega)
  |succ n=>right;rw[show((n+1:Nat):Int)-1=(n:Int)by omega,Am];exact h.ord n hk
theorem MemT.mono {m:List Page}(h:MemT m){i:Nat}:∀ {j:Nat},i<j→j<m.length→(pgN m i).base+256≤(pgN m j).base
 |0,hj,_=>absurd hj (Nat.not_lt_zero _)
 |j+1,hij,hj=>by
  have h1:=h.ord j hj
  have p1:=(h.pg j (by omega)).2.2.1
  have p2:=(h.pg (j+1) hj).2.2.1
  by_cases he:i=j
  ·subst he;omega
  ·have:=h.mono (i:=i) (j:=j) (by omega) (by omega)
   omega
theorem MemT.apart {m:List Page}(h:MemT m){i j:Nat}(hi:i<m.length)(hj:j<m.length)(hne:i≠j):(pgN m i).base+256≤(pgN m j).base∨(pgN m j).base+256≤(pgN m i).base:=by
 by_cases hlt:i<j
 ·exact .inl (h.mono hlt hj)
 ·exact .inr (h.mono (by omega) hi)
theorem MemT.r {m:List Page}(h:MemT m):MemR m:=memOK_r h.ok
structure Laid (m:List Page)(a:Int)(t:List UInt8)(n:Nat)(x:List Page):Prop where
 len:x.length=m.length
 pg:∀i,i<m.length→(pgN x i).base=(pgN m i).base∧(pgN x i).perm=(pgN m i).perm∧(pgN x i).data.length=256∧
  ∀k:Nat,k<256→(pgN x i).data.getD k 0=if a≤(pgN m i).base+k∧(pgN m i).base+k<a+n then t.getD ((pgN m i).base+k-a).toNat 0 else(pgN m i).data.getD k 0
theorem Laid.start {m:List Page}(h:MemT m)(a:Int)(t:List UInt8):Laid m a t 0 m:=by
 refine⟨rfl,fun i hi=>⟨rfl,rfl,(h.pg i hi).2.2.2.2.2,fun k hk=>?_⟩⟩
 rw[if_neg (by omega)]
theorem Laid.memT {m x:List Page}{a:Int}{t:List UInt8}{n:Nat}(h:MemT m)(hx:Laid m a t n x):MemT x:=by
 refine⟨by rw[hx.len];exact h.len,fun i hi=>?_,fun i hi=>?_⟩
 ·rw[hx.len]at hi
  obtain⟨h1,h2,h3,_⟩:=hx.pg i hi
  obtain⟨a,b,c,d,e,f⟩:=h.pg i hi
  rw[h1,h2];exact⟨a,b,c,d,e,h3⟩
 ·rw[hx.len]at hi
  rw[(hx.pg i (by omega)).1,(hx.pg (i+1) hi).1]
  exact h.ord i hi
theorem Laid.step {m x:List Page}{a:Int}{t:List UInt8}{j:Nat}(hm:MemT m)(hx:Laid m a t j x){i:Nat}(hi:i<m.length){o c:Nat}
  (ho:(o:Int)=a+j-(pgN m i).base) (hoc:o+c≤256) (hjc:j+c≤t.length):
  Laid m a t (j+c) (x.set i (Page.mk (pgN x i).base (pgN x i).perm ((pgN x i).data.take o++(t.drop j).take c++(pgN x i).data.drop (o+c)))):=by
 refine⟨by rw[List.length_set];exact hx.len,fun i' hi'=>?_⟩
 obtain⟨h1,h2,h3,h4⟩:=hx.pg i' hi'
 by_cases he:i'=i
 ·subst he
  have hset:∀p:Page,pgN (x.set i' p) i'=p:=fun p=>by unfold pgN;rw[List.getD_eq_getElem?_getD,List.getElem?_set_self (by rw[hx.len];exact hi'),Option.getD_some]
  rw[hset]
  have l1:((pgN x i').data.take o).length=o:=by rw[List.length_take];omega
  have l2:((t.drop j).take c).length=c:=by rw[List.length_take,List.length_drop];omega
  refine⟨h1,h2,by simp only[List.length_append,l1,l2,List.length_drop];omega,fun k hk=>?_⟩
  have h4:=h4 k hk
  dsimp only
  rw[List.getD_eq_getElem?_getD]at h4⊢
  by_cases k1:k<o
  ·rw[List.append_assoc,List.getElem?_append_left (by omega),List.getElem?_take,if_pos k1,h4]
   by_cases hc:a≤(pgN m i').base+k∧(pgN m i').base+k<a+j
   ·rw[if_pos hc,if_pos (by omega)]
   ·rw[if_neg hc,if_neg (by omega)]
  ·by_cases k2:k<o+c
   ·rw[List.append_assoc,List.getElem?_append_right (by omega),l1,List.getElem?_append_left (by omega),List.getElem?_take,if_pos (by omega),List.getElem?_drop,if_pos (by omega),List.getD_eq_getElem?_getD]
    rw[show j+(k-o)=((pgN m i').base+k-a).toNat by omega]
   ·rw[List.getElem?_append_right (by rw[List.length_append];omega),List.length_append,l1,l2,List.getElem?_drop,show o+c+(k-(o+c))=k by omega,h4,if_neg (by omega),if_neg (by omega)]
 ·rw[show pgN (x.set i _) i'=pgN x i' from by unfold pgN;rw[List.getD_eq_getElem?_getD,List.getElem?_set_ne (by omega),←List.getD_eq_getElem?_getD]]
  refine⟨h1,h2,h3,fun k hk=>?_⟩
  rw[h4 k hk]
  rcases hm.apart hi' hi he with hp|hp
  ·by_cases hc:a≤(pgN m i').base+k∧(pgN m i').base+k<a+j
   ·rw[if_pos hc,if_pos (by omega)]
   ·rw[if_neg hc,if_neg (by omega)]
  ·by_cases hc:a≤(pgN m i').base+k∧(pgN m i').base+k<a+j
   ·rw[if_pos hc,if_pos (by omega)]
   ·rw[if_neg hc,if_neg (by omega)]
theorem tG (m:List Page)(i:Nat):aQ m (i:Int) (aD .page)=pgN m i:=by simp[pgN,aQ]
theorem pp (m:List Page)(hm:m.length≤1048576):bi (((m,()),()),())=some ((),(m,())):=by
 unfold bi ce
 dsimp only
 rw[show fa ([]:List Page) m=true from iK (by simp;omega),bn]
 cases m with
 |nil=>rw[show eqI (bW ([]:List Page)) 0=true from rfl,bn];rw[show d9 ([]:List Page) []=[]from rfl];unfold eqO;rw[if_pos rfl,af]
 |cons p r=>rw[show eqI (bW (p::r)) 0=false from aP (by simp[cQ];omega),aL,af];rfl
theorem lay_ex (m:List Page)(hm:MemT m)(a:Int)(t:List UInt8)(_ha:I64 a)(ht:t.length≤8)(hok:∀k,k<t.length→¬fnd m (a+(k:Nat))<0):
  ∃x,cS (((m,()),(a,(t,()))),())=some ((),(x,()))∧Laid m a t t.length x:=by
 unfold cS
 dsimp only
 rw[pp m (by have:=hm.len;omega),af]
 refine pH (fun s=>∃j:Nat,j≤t.length∧s.1.1=a+j∧s.1.2.1=t.drop j∧Laid m a t j s.2.2.2.2.1∧s.2.1.1=m) (fun s=>s.1.2.1.length) (fun _ o=>∃x,o=some ((),(x,()))∧Laid m a t t.length x) ?_ F _ ⟨0,by simp,by simp,by simp,Laid.start hm a t,rfl⟩ (by unfold F;dsimp only;omega)
 rintro⟨⟨b,u,_⟩,⟨m',_⟩,_,_,x,_⟩ rec ⟨j,hj,h1,h2,hx,h3⟩ hrec
 dsimp only at h1 h2 h3 hx hrec⊢
 subst h1 h2 h3
 rw[show bW (t.drop j)=((t.length-j:Nat):Int)from by rw[cQ,List.length_drop]]
 by_cases hjl:j<t.length
 ·have hmx:=hx.memT hm
  have hf:=hok j hjl
  rcases pB hm.r (a+j)with h0|⟨i,hi,h0,hb1,hb2,r0,r1,hb3,hdl⟩
  ·rw[h0]at hf;exact absurd (by decide) hf
  ·have hix:i<x.length:=by rw[hx.len];exact hi
   obtain⟨p1,p2,p3,p4,p5,p6⟩:=hmx.pg i hix
   rw[←lO hi]at hb1 hb2 hb3 hdl
   have hbe:=(hx.pg i hi).1
   obtain⟨o,ho⟩:=Int.eq_ofNat_of_zero_le (show 0≤a+j-(pgN m' i).base by omega)
   have hs:gZ (a+j) 256=(o:Int):=by rw[dZ r0];omega
   obtain⟨c,hc⟩:∃c:Nat,c=min (t.length-j) (256-o):=⟨_,rfl⟩
   have hi':jk ((t.length-j:Nat):Int) (aT .i64 256 (o:Int))=(c:Int):=by
    rw[nT (by unfold I64;omega)];unfold jk;split<;>omega
   have hfi:fnd m' (a+j)=(i:Int):=h0
   rw[ag (nX (by omega)),nA m' hm.r,af]
   dsimp only
   rw[hfi]
   simp only[tG,hs,hi',cQ,p6]
   rw[gS (a:=(o:Int)) (by unfold I64;omega),gS (a:=a+j) (by unfold I64;omega)]
   rw[ag (cj (by omega) (by omega)),ag (uP (by omega) (by omega)),ag (uP (by omega) (by omega))]
   rw[ag (iK (by unfold ja;simp only[List.length_take];omega)),ag (uP (by omega) (by omega))]
   rw[ag (iK (by unfold ja mi d9;simp only[List.length_take,List.length_append,List.length_drop];omega)),ag (uP (by omega) (by omega))]
   refine hrec _ ⟨j+c,by omega,by dsimp only;omega,?_,?_,rfl⟩ ?_
   ·dsimp only;unfold mi;rw[List.drop_drop,Int.toNat_natCast]
   ·have:=Laid.step hm hx hi (o:=o) (c:=c) (by omega) (by omega) (by omega)
    dsimp only
    unfold cF ja mi d9
    rw[Int.toNat_natCast,Int.toNat_natCast,Int.toNat_natCast,show((o:Int)+(c:Int)).toNat=o+c by omega]
    exact this
   ·dsimp only;unfold mi;simp only[List.length_drop];omega
 ·have:j=t.length:=by omega
  subst this
  rw[aB (nW (by omega))]
  exact⟨x,rfl,hx⟩
def byI (v:Int)(k:Nat):Int:=v/2^(8*k)%256
def leB (v:Int)(n:Nat):List UInt8:=iU ((List.range n).map (byI v))
theorem sy (v:Int)(n:Nat):(leB v n).length=n:=by simp[leB,iU]
theorem shrI (v:Int)(k:Nat)(hk:k<8):aH .u8 (dh .i64 v (8*(k:Int)))=byI v k:=by
 unfold dh byI aH
 rw[s9,show(8*(k:Int)).toNat=8*k by omega,show min (8*k) (IntKind.bits .i64)=8*k from by simp only[IntKind.bits];omega]
 rw[Int.fdiv_eq_ediv_of_nonneg _ (Int.le_of_lt (Int.pow_pos (by decide)))]
theorem wO (v:Int)(n:Nat)(hn:n≤8):eT ((v,((n:Int),())),())=some (leB v n,()):=by
 unfold eT
 dsimp only
 rw[ag (uP (by omega) (by omega)),ag (wu (by omega))]
 have hr:bW (nZ (n:Int) (aD .u))=(n:Int):=by simp[bW,nZ]
 rw[hr]
 refine(iN (fun s=>s.1.1=v∧s.1.2.1=(n:Int)∧∃k:Nat,k≤n∧s.1.2.2.1=(k:Int)∧s.2.1=(List.range k).map (byI v)++List.replicate (n-k) (aD .u)) (fun s=>n-s.1.2.2.1.toNat) (fun _=>some (leB v n,())) ?_ F _ ⟨rfl,rfl,0,by omega,by simp,by simp[nZ]⟩ (by unfold F;dsimp only;omega))
 rintro⟨⟨b,l,i,_⟩,u,_⟩ rec ⟨h1,h2,k,hk,h3,h4⟩ hrec
 dsimp only at h1 h2 h3 h4 hrec⊢
 subst h1 h2 h3
 have hul:u.length=n:=by rw[h4];simp;omega
 by_cases hl:k<n
 ·rw[cx (by omega) (by omega),shrI b k (by omega),ag (nX (by omega)),ag (fT (by omega)),ag (cj (by omega) (by rw[cQ];omega)),bS (by omega) (by omega)]
  refine hrec _ ⟨rfl,rfl,k+1,by omega,by dsimp only;omega,?_⟩ (by dsimp only;omega)
  dsimp only
  rw[h4]
  unfold cF
  rw[Int.toNat_natCast,List.set_append_right _ _ (by simp),List.length_map,List.length_range,Nat.sub_self,show n-k=(n-(k+1))+1 by omega,List.replicate_succ,List.range_succ,List.map_append,List.append_assoc];rfl
 ·have:k=n:=by omega
  subst this
  rw[aB (nW (by omega)),h4,Nat.sub_self]
  simp[leB]
theorem qY {n:Int}(h:cM n=true):n=1∨n=2∨n=4∨n=8:=by
 simp only[cM,eqI,Bool.or_eq_true,decide_eq_true_eq]at h;exact h
theorem rh (v:Int):(BitVec.ofInt 64 v).toNat=(v%18446744073709551616).toNat:=by
 rw[BitVec.toNat_ofInt];rfl
theorem mu (v:Int)(j:Nat)(hj:j<63):ec .i64 v (2^j-1)=v%2^j:=by
 unfold ec
 show IntKind.wrap .i64 (((BitVec.ofInt 64 v&&& BitVec.ofInt 64 (2^j-1)).toNat:Nat):Int)=_
 rw[BitVec.toNat_and,rh,rh]
 have hp:(1:Int)≤2^j:=Int.pow_pos (by decide)
 have hp2:(2:Int)^j*2^(63-j)=9223372036854775808:=by rw[←Int.pow_add,show j+(63-j)=63 by omega];rfl
 have hp3:(1:Int)≤2^(63-j):=Int.pow_pos (by decide)
 have hle:(2:Int)^j≤9223372036854775808:=by
  have:=Int.mul_le_mul_of_nonneg_left hp3 (show(0:Int)≤2^j by omega)
  omega
 have e2:(((2:Int)^j-1)%18446744073709551616).toNat=2^j-1:=by
  rw[Int.emod_eq_of_lt (by omega) (by omega)]
  have:((2^j:Nat):Int)=(2:Int)^j:=by simp
  omega
 rw[e2,Nat.and_two_pow_sub_one_eq_mod]
 have e3:((v%18446744073709551616).toNat%2^j:Nat)=((v%2^j).toNat):=by
  have h1:((v%18446744073709551616).toNat:Int)=v%18446744073709551616:=Int.toNat_of_nonneg (by omega)
  have h2:(((v%18446744073709551616).toNat%2^j:Nat):Int)=v%2^j:=by
   rw[Int.natCast_emod,h1,Int.natCast_pow]
   refine Int.emod_emod_of_dvd v ⟨2^(63-j)*2,?_⟩
   show(18446744073709551616:Int)=2^j*(2^(63-j)*2)
   rw[←Int.mul_assoc,hp2];rfl
  omega
 rw[e3,Int.toNat_of_nonneg (Int.emod_nonneg _ (by omega))]
 have h5:=Int.emod_lt_of_pos v (show(0:Int)<2^j by omega)
 have h6:=Int.emod_nonneg v (show(2:Int)^j≠0 by omega)
 exact db ⟨by omega,by omega⟩
def dc (v:Int)(n:Nat):Int:=if n=8 then v else v%2^(8*n)
theorem bg (v:Int)(n:Nat)(hn:cM (n:Int)=true):aa ((v,((n:Int),())),())=some (dc v n,()):=by
 unfold aa dc
 dsimp only
 by_cases h8:n=8
 ·subst h8;rw[show eqI ((8:Nat):Int) 8=true from rfl,bn,if_pos rfl]
 ·have hn4:n≤4:=by rcases qY hn with h|h|h|h<;>omega
  rw[aB (aP (by omega)),cx (by omega) (by omega),ag (fT (by omega)),if_neg h8]
  have hs:aT .i64 (gP .i64 1 (8*(n:Int))) 1=2^(8*n)-1:=by
   rcases qY hn with h|h|h|h
   ·have:n=1:=by omega
    subst this;rfl
   ·have:n=2:=by omega
    subst this;rfl
   ·have:n=4:=by omega
    subst this;rfl
   ·omega
  rw[hs,mu v (8*n) (by omega)]
instance decI64 (n:Int):Decidable (I64 n):=by unfold I64;infer_instance
theorem ma (v:Int)(k:Nat)(h0:1≤k)(h1:k≤8):ic ((v,((k:Int),())),())=some (IntKind.wrap .i64 ((uns v%2^(8*k):Nat):Int),()):=by
 unfold ic
 dsimp only
 rw[cx (by omega) (by omega),gb (by omega) (by omega)]
 have hu:uns v%2^(8*k)<2^(8*k):=Nat.mod_lt _ (Nat.two_pow_pos _)
 have hp:(2:Nat)^(8*k)≤2^64:=Nat.pow_le_pow_right (by decide) (by omega)
 generalize hw:uns v%2^(8*k)=w at hu⊢
 refine iN (fun x=>x.1.1=v∧ -1≤x.1.2.2.1∧x.1.2.2.1≤8*(k:Int)-1∧x.1.2.1=((w/2^(x.1.2.2.1+1).toNat:Nat):Int)) (fun x=>(x.1.2.2.1+1).toNat)
  (fun _=>some (IntKind.wrap .i64 (w:Int),())) ?_ F _ ⟨rfl,by dsimp only;omega,by dsimp only;omega,?_⟩ (by unfold F;dsimp only;omega)
 ·rintro⟨⟨v',acc,i,_⟩,_⟩ rec ⟨rfl,h2,h3,hacc⟩ hrec
  dsimp only at h2 h3 hacc hrec⊢
  by_cases hi:0≤i
  ·obtain⟨j,rfl⟩:=Int.eq_ofNat_of_zero_le hi
   rw[ag (fT hi),q5 _ _ (by omega) (by omega),af]
   dsimp only
   have e3:v'%2^64/2^((j:Int)).toNat%2=((w/2^j%2:Nat):Int):=by
    have hb:∀a j:Nat,a/2^j%2=(a.testBit j).toNat:=fun a j=>by rw[Nat.testBit_eq_decide_div_mod_eq];rcases Nat.mod_two_eq_zero_or_one (a/2^j)with h|h<;>simp[h]
    have:w/2^j%2=uns v'/2^j%2:=by
     rw[hb,hb,←hw,Nat.testBit_mod_two_pow,decide_eq_true (by omega),Bool.true_and]
    rw[this,←bf];simp
   rw[e3]
   have e4:w/2^(((j:Int)+1).toNat)=w/2^j/2:=by
    rw[show((j:Int)+1).toNat=j+1 by omega,Nat.pow_succ,Nat.div_div_eq_div_mul]
   rw[e4]at hacc
   generalize hq:w/2^j=q at hacc⊢
   have hq2:q<2^64:=by rw[←hq];exact Nat.lt_of_le_of_lt (Nat.div_le_self _ _) (by omega)
   have e5:aF .u64 (bq .u64 2 acc) (aH .u64 ((q%2:Nat):Int))=(q:Int):=by
    unfold aF bq aH
    rw[hacc,iX (n:=2*((q/2:Nat):Int)) (by omega) (by omega),iX (n:=((q%2:Nat):Int)) (by omega) (by omega),iX (by omega) (by omega)]
    omega
   rw[e5,gb (by omega) (by omega)]
   refine hrec _ ⟨rfl,by dsimp only;omega,by dsimp only;omega,?_⟩ (by dsimp only;omega)
   dsimp only
   rw[show((j:Int)-1+1).toNat=j by omega,hq]
  ·rw[aB (jP hi)]
   have:i= -1:=by omega
   subst this
   rw[hacc]
   simp
   rfl
 ·dsimp only
  rw[show(8*(k:Int)-1+1).toNat=8*k by omega,Nat.div_eq_of_lt hu];rfl
theorem uU {v:Int}(hv:I64 v)(k:Nat)(hk:cM (k:Int)=true):ic ((v,((k:Int),())),())=some (dc v k,()):=by
 obtain⟨k1,k8⟩:1≤k∧k≤8:=by rcases qY hk with h|h|h|h<;>omega
 rw[ma v k k1 k8]
 unfold dc
 by_cases h8:k=8
 ·subst h8
  rw[if_pos rfl]
  have hlt:uns v<2^64:=by have:=bf v;have:=Int.emod_lt_of_pos v (show(0:Int)<2^64 by decide);omega
  rw[show 8*8=64 from rfl,Nat.mod_eq_of_lt hlt,bf]
  have he:IntKind.wrap .i64 (v%2^64)=IntKind.wrap .i64 v:=by
   simp[IntKind.wrap,IntKind.bits]
  rw[he,db hv]
 ·rw[if_neg h8]
  have e:((uns v%2^(8*k):Nat):Int)=v%2^(8*k):=by
   rw[Int.natCast_emod,bf,show((2^(8*k):Nat):Int)=(2:Int)^(8*k)by simp]
   refine Int.emod_emod_of_dvd v ⟨2^(64-8*k),?_⟩
   rw[←Int.pow_add];congr 1;omega
  rw[e]
  have h1:=Int.emod_nonneg v (show(2:Int)^(8*k)≠0 from Int.ne_of_gt (Int.pow_pos (by decide)))
  have h2:=Int.emod_lt_of_pos v (show(0:Int)<2^(8*k)from Int.pow_pos (by decide))
  have h3:(2:Int)^(8*k)≤2^32:=by
   have:k=1∨k=2∨k=4:=by rcases qY hk with h|h|h|h<;>omega
   rcases this with rfl|rfl|rfl<;>decide
  generalize (2:Int)^(8*k)=q at h1 h2 h3⊢
  rw[db (n:=v%q) ⟨by omega,by omega⟩]
def je (v:Int)(k:Nat):Bool:=decide (v%2^64/2^k%2=1)
theorem fO (v:Int)(k:Nat):je v k=(uns v).testBit k:=by
 unfold je
 rw[←bf,Nat.testBit_eq_decide_div_mod_eq]
 have e:((uns v:Int)/2^k%2=1)↔(uns v/2^k%2=1):=by
  have:((uns v:Int)/2^k%2)=((uns v/2^k%2:Nat):Int):=by simp
  rw[this];omega
 simp only[e]
theorem fj (v:Int):uns v<2^64:=by have:=bf v;have:=Int.emod_lt_of_pos v (show(0:Int)<2^64 by decide);omega
theorem bV (v:Int):uns (IntKind.wrap .i64 v)=uns v:=by
 unfold uns
 have:IntKind.wrap .i64 v%2^64=v%2^64:=by
  simp only[IntKind.wrap,IntKind.bits,IntKind.signed,Bool.true_and]
  split<;>omega
 rw[this]
theorem eJ {n:Nat}(h:n<2^64):uns (n:Int)=n:=by unfold uns;omega
theorem uk (a b:Int):uns (ec .i64 a b)=uns a&&& uns b:=by
 unfold ec
 rw[bV]
 show uns (((BitVec.ofInt 64 a&&& BitVec.ofInt 64 b).toNat:Nat):Int)=_
 rw[eJ (BitVec.isLt _),BitVec.toNat_and];rfl
theorem zN (a b:Int):uns (qZ .i64 a b)=uns a ^^^uns b:=by
 unfold qZ
 rw[bV]
 show uns (((BitVec.ofInt 64 a ^^^BitVec.ofInt 64 b).toNat:Nat):Int)=_
 rw[eJ (BitVec.isLt _),BitVec.toNat_xor];rfl
theorem qn (a b:Int):uns (ior .i64 a b)=uns a|||uns b:=by
 unfold ior
 rw[bV]
 show uns (((BitVec.ofInt 64 a|||BitVec.ofInt 64 b).toNat:Nat):Int)=_
 rw[eJ (BitVec.isLt _),BitVec.toNat_or];rfl
theorem tu (a b:Int)(k:Nat):je (ec .i64 a b) k=(je a k&&je b k):=by rw[fO,fO,fO,uk,Nat.testBit_and]
theorem mr (a b:Int)(k:Nat):je (qZ .i64 a b) k=(je a k ^^je b k):=by rw[fO,fO,fO,zN,Nat.testBit_xor]
theorem iV {a b:Int}(ha:I64 a)(hb:I64 b)(h:uns a=uns b):a=b:=by
 unfold I64 at*
 have h1:=bf a
 have h2:=bf b
 rw[h]at h1
 omega
theorem yT (v:Int):ec .i64 v 1=v%2:=mu v 1 (by decide)
theorem xz {v:Int}(k:Nat)(hk:k≤63):eqI (ec .i64 (dh .i64 v (k:Int)) 1) 1=je v k:=by
 rw[yT]
 unfold dh je eqI
 rw[Int.toNat_natCast,show min k IntKind.i64.bits=k by simp[IntKind.bits];omega]
 have hp:(0:Int)<2^k:=Int.pow_pos (by decide)
 rw[Int.fdiv_eq_ediv_of_nonneg _ (Int.le_of_lt hp)]
 have e:v/2^k%2=v%2^64/2^k%2:=by
  have h64:(2:Int)^k*2^(64-k)=2^64:=by rw[←Int.pow_add];congr 1;omega
  have h2:(2:Int)^(64-k)=2*2^(63-k):=by rw[show 64-k=(63-k)+1 by omega,Int.pow_succ,Int.mul_comm]
  have hd:v=v%2^64+2^k*(2*2^(63-k)*(v/2^64)):=by
   have:=(Int.emod_add_mul_ediv v (2^64)).symm
   rw[←Int.mul_assoc,←h2,h64];exact this
  generalize v%2^64=r at hd⊢
  generalize v/2^64=s at hd
  rw[hd,Int.add_mul_ediv_left _ _ (Int.ne_of_gt hp),Int.mul_assoc,Int.add_mul_emod_self_left]
 rw[e]
theorem nU {v:Int}(n:Nat)(hn:1≤n)(hn8:n≤8):ch ((v,(n:Int),()),())=some (je v (8*n-1),()):=by
 unfold ch
 dsimp only
 rw[cx (by omega) (by omega),gb (by omega) (by omega),ag (fT (by omega))]
 have e:8*(n:Int)-1=((8*n-1:Nat):Int):=by omega
 rw[e,xz _ (by omega)]
theorem eG (b:Bool)(k:Int):aN ((b,k,()),())=some (if b=true then k else 0,()):=by
 unfold aN;cases b<;>rfl
def parL:List Bool:=(List.range 256).map fun u=>(u%2+u/2%2+u/4%2+u/8%2+u/16%2+u/32%2+u/64%2+u/128%2)%2==0
def parB (v:Int):Bool:=parL.getD (uns v%256) false
def yb (n:Nat)(v:Int):Int:=ior .i64 (ior .i64 (if je v (8*n-1)=true then 128 else 0) (if dc v n=0 then 64 else 0)) (if parB v=true then 4 else 0)
def onesB (u:Nat):Bool:=match bQ (((u:Int),()),())with
 |some x=>decide ((gZ x.1 2=0)=(parL.getD u false=true))
 |none=>false
theorem zu:∀u:Nat,u<256→onesB u=true:=by decide +kernel
theorem wrapU8 (v:Int):aH .u8 v=((uns v%256:Nat):Int):=by
 unfold aH uns
 rw[s9];omega
theorem fx {v:Int}(n:Nat)(hn:cM (n:Int)=true):bw (((n:Int),v,()),())=some (yb n v,()):=by
 obtain⟨h1,h8⟩:1≤n∧n≤8:=by rcases qY hn with h|h|h|h<;>omega
 unfold bw
 dsimp only
 rw[nU n h1 h8,af]
 dsimp only
 rw[eG,af,bg v n hn,af]
 dsimp only
 rw[eG,af,wrapU8]
 have hu:uns v%256<256:=Nat.mod_lt _ (by decide)
 have ho:=zu (uns v%256) hu
 unfold onesB at ho
 cases hx:bQ ((((uns v%256:Nat):Int),()),())with
 |none=>rw[hx]at ho;cases ho
 |some x=>
  rw[hx]at ho
  have ho:=of_decide_eq_true ho
  rw[af,eG,af]
  have e:eqI (gZ x.1 2) 0=parB v:=by
   rw[Bool.eq_iff_iff,ca,ho];rfl
  rw[e]
  unfold yb
  simp only[ca]
def cw (v:Int)(n:Nat):Nat:=uns v%2^(8*n)
def kk (u n:Nat):Int:=IntKind.wrap .i64 ((u%2^(8*n):Nat):Int)
def sumV (n:Nat)(a b:Int)(c:Nat):Int:=kk (cw a n+cw b n+c) n
def sumC (n:Nat)(a b:Int)(c:Nat):Bool:=decide ((cw a n+cw b n+c)/2^(8*n)=1)
def sumI (n:Nat)(a b:Int)(c:Nat):Bool:=decide ((cw a n%2^(8*n-1)+cw b n%2^(8*n-1)+c)/2^(8*n-1)=1)
def subV (n:Nat)(a b:Int)(c:Nat):Int:=kk (cw a n+2^(8*n)-cw b n-c) n
def subC (n:Nat)(a b:Int)(c:Nat):Bool:=decide (cw a n<cw b n+c)
def subI' (n:Nat)(a b:Int)(c:Nat):Bool:=decide (cw a n%2^(8*n-1)<cw b n%2^(8*n-1)+c)
def addF (n:Nat)(v:Int)(c i:Bool):Int:=ior .i64 (ior .i64 (yb n v) (if c=true then 1 else 0)) (if(c != i)=true then 2048 else 0)
def xG (n:Nat)(a b:Int)(c:Nat):Int×Int:=(sumV n a b c,addF n (sumV n a b c) (sumC n a b c) (sumI n a b c))
def vA (n:Nat)(a b:Int)(c:Nat):Int×Int:=(subV n a b c,addF n (subV n a b c) (subC n a b c) (subI' n a b c))
def lL (v:Int)(n:Nat):Prop:=dc v n=v∧I64 v
theorem gI {v:Int}(hv:I64 v){n:Nat}(hn:cM (n:Int)=true):dc v n=kk (cw v n) n:=by
 unfold kk cw
 rw[Nat.mod_mod]
 have h1:=uU hv n hn
 obtain⟨h1',h8⟩:1≤n∧n≤8:=by rcases qY hn with h|h|h|h<;>omega
 rw[ma v n h1' h8]at h1
 injection h1 with h1
 injection h1 with h1 _
 exact h1.symm
theorem fY {v:Int}:aH .u64 v=((uns v:Nat):Int):=by unfold aH;rw[iB];exact(bf v).symm
theorem wX {v:Int}{n:Nat}(hn:cM (n:Int)=true)(h:lL v n):uns v=cw v n:=by
 obtain⟨h1,h2⟩:=h
 unfold I64 at h2
 unfold cw
 unfold dc at h1
 have:=fj v
 rcases qY hn with g|g|g|g
 ·have:n=1:=by omega
  subst this
  rw[if_neg (by decide)]at h1
  rw[show(2:Int)^(8*1)=256 from rfl]at h1
  rw[show(2:Nat)^(8*1)=256 from rfl]
  unfold uns;omega
 ·have:n=2:=by omega
  subst this
  rw[if_neg (by decide)]at h1
  rw[show(2:Int)^(8*2)=65536 from rfl]at h1
  rw[show(2:Nat)^(8*2)=65536 from rfl]
  unfold uns;omega
 ·have:n=4:=by omega
  subst this
  rw[if_neg (by decide)]at h1
  rw[show(2:Int)^(8*4)=4294967296 from rfl]at h1
  rw[show(2:Nat)^(8*4)=4294967296 from rfl]
  unfold uns;omega
 ·have:n=8:=by omega
  subst this
  rw[show 8*8=64 from rfl]
  omega
theorem gJ (v:Int)(n:Nat):cw v n<2^(8*n):=Nat.mod_lt _ (Nat.two_pow_pos _)
theorem iM (u n:Nat):I64 (kk u n):=ax _
theorem jY (u n:Nat)(hn:n≤8):uns (kk u n)=u%2^(8*n):=by
 unfold kk
 rw[bV]
 have h1:u%2^(8*n)<2^(8*n):=Nat.mod_lt _ (Nat.two_pow_pos _)
 have h2:(2:Nat)^(8*n)≤2^64:=Nat.pow_le_pow_right (by decide) (by omega)
 exact eJ (by omega)
theorem vH {n:Nat}(hn:cM (n:Int)=true):n=1∨n=2∨n=4∨n=8:=by rcases qY hn with h|h|h|h<;>omega
theorem fi {n:Nat}(hn:cM (n:Int)=true):1≤n∧n≤8:=by rcases vH hn with h|h|h|h<;>omega
theorem qF (u n k:Nat)(hn:n≤8)(hk:k<8*n):je (kk u n) k=decide (u/2^k%2=1):=by
 rw[fO,jY u n hn,Nat.testBit_mod_two_pow,decide_eq_true hk,Bool.true_and,Nat.testBit_eq_decide_div_mod_eq]
theorem jJ {v:Int}{n k:Nat}(hk:k<8*n):je v k=decide (cw v n/2^k%2=1):=by
 unfold cw
 rw[fO,←Nat.testBit_eq_decide_div_mod_eq,Nat.testBit_mod_two_pow,decide_eq_true hk,Bool.true_and]
theorem ovf (A B C m:Nat)(hm:1≤m)(hA:A<2^m)(hB:B<2^m)(hC:C≤1):
  ((decide (A/2^(m-1)%2=1)^^decide ((A+B+C)/2^(m-1)%2=1))&&(decide (B/2^(m-1)%2=1)^^decide ((A+B+C)/2^(m-1)%2=1)))=
  (decide ((A+B+C)/2^m=1) != decide ((A%2^(m-1)+B%2^(m-1)+C)/2^(m-1)=1)):=by
 obtain⟨k,rfl⟩:∃k,m=k+1:=⟨m-1,by omega⟩
 rw[show k+1-1=k by omega]
 have hp:0<2^k:=Nat.two_pow_pos k
 rw[Nat.pow_succ]at*
 generalize 2^k=P at*
 have a1:=Nat.div_add_mod A P
 have b1:=Nat.div_add_mod B P
 have a2:A/P<2:=by rw[Nat.div_lt_iff_lt_mul hp];omega
 have b2:B/P<2:=by rw[Nat.div_lt_iff_lt_mul hp];omega
 have a3:=Nat.mod_lt A hp
 have b3:=Nat.mod_lt B hp
 generalize A%P=x at*
 generalize B%P=y at*
 have hS:(A+B+C)/P=A/P+B/P+(x+y+C)/P:=by
  have e:A+B+C=(x+y+C)+P*(A/P+B/P):=by rw[Nat.mul_add];omega
  rw[e,Nat.add_mul_div_left _ _ hp];omega
 have hS2:(A+B+C)/(P*2)=(A/P+B/P+(x+y+C)/P)/2:=by rw[←Nat.div_div_eq_div_mul,hS]
 have h3:(x+y+C)/P<2:=by rw[Nat.div_lt_iff_lt_mul hp];omega
 rw[hS,hS2]
 generalize (x+y+C)/P=z at*
 generalize A/P=p at*
 generalize B/P=q at*
 have hp':p=0∨p=1:=by omega
 have hq':q=0∨q=1:=by omega
 have hz':z=0∨z=1:=by omega
 rcases hp' with rfl|rfl<;>rcases hq' with rfl|rfl<;>rcases hz' with rfl|rfl<;>decide
theorem mt {c:Nat}(hc:c≤1):vG (aH .u64 (c:Int))=true∧aH .u64 (c:Int)=c:=by
 have:aH .u64 (c:Int)=c:=iA (by omega) (by omega)
 rw[this]
 exact⟨decide_eq_true (by omega),rfl⟩
theorem qm (v:Int):qk (aH .u64 v)=true:=by
 rw[fY]
 have:=fj v
 exact decide_eq_true (by omega)
theorem qW {n:Nat}(hn:cM (n:Int)=true)(u:Nat):dc (aH .i64 ((u%18446744073709551616:Nat):Int)) n=kk u n:=by
 obtain⟨h1,h8⟩:=fi hn
 have hI:I64 (aH .i64 ((u%18446744073709551616:Nat):Int)):=ax _
 rw[gI hI hn]
 unfold cw
 have:uns (aH .i64 ((u%18446744073709551616:Nat):Int))=u%18446744073709551616:=by
  unfold aH;rw[bV];exact eJ (Nat.mod_lt _ (by decide))
 rw[this]
 unfold kk
 rw[Nat.mod_mod,Nat.mod_mod_of_dvd]
 exact⟨2^(64-8*n),by rw[←Nat.pow_add,show 8*n+(64-8*n)=64 by omega]⟩
theorem xH {a b:Int}{n c:Nat}(hn:cM (n:Int)=true)(ha:lL a n)(hb:lL b n)(hc:c≤1):
  eK (((n:Int),a,b,(c:Int),()),())=some (((xG n a b c).1,(xG n a b c).2,()),()):=by
 obtain⟨h1,h8⟩:=fi hn
 have ea:=wX hn ha
 have eb:=wX hn hb
 have la:=gJ a n
 have lb:=gJ b n
 unfold eK
 dsimp only
 rw[qm,qm,(mt hc).1,(mt hc).2,bn,bn,bn,fY,fY,ea,eb]
 have eS:mI ((cw a n:Nat):Int) ((cw b n:Nat):Int) (c:Int)=(((cw a n+cw b n+c)%18446744073709551616:Nat):Int):=by unfold mI;omega
 have eC:qy ((cw a n:Nat):Int) ((cw b n:Nat):Int) (c:Int)=(((cw a n+cw b n+c)/18446744073709551616:Nat):Int):=by unfold qy;omega
 rw[eS,eC]
 refine(Ret.bnd (Q:=fun y=>y=Sum.inl (((n:Int),a,b,(((cw a n+cw b n+c)%18446744073709551616:Nat):Int),sumC n a b c,()),())) ?_ ?_).eq
 ·unfold sumC
  by_cases h:n<8
  ·rw[ag (nX (by omega)),cx (by omega) (by omega),ag (fT (by omega))]
   refine Ret.some ?_
   have hsz:n=1∨n=2∨n=4:=by rcases vH hn with h|h|h|h<;>omega
   have e:eqI (ec .u64 (dh .u64 (((cw a n+cw b n+c)%18446744073709551616:Nat):Int) (8*(n:Int))) 1) 1=decide ((cw a n+cw b n+c)/2^(8*n)=1):=by
    have hs:∀(x:Nat) (k:Nat),x<2^64→k≤64→dh .u64 (x:Int) (k:Int)=((x/2^k:Nat):Int):=fun x k hx hk=>by
     unfold dh
     rw[Int.toNat_natCast,show min k IntKind.u64.bits=k by simp[IntKind.bits];omega]
     rw[Int.fdiv_eq_ediv_of_nonneg _ (Int.le_of_lt (Int.pow_pos (by decide)))]
     simp
    have hand:∀x:Nat,x<2^64→ec .u64 (x:Int) 1=((x%2:Nat):Int):=fun x hx=>by
     unfold ec
     rw[iB]
     have:(BitVec.ofInt IntKind.u64.bits (x:Int)&&& BitVec.ofInt IntKind.u64.bits 1).toNat=x%2:=by
      rw[BitVec.toNat_and]
      have e1:(BitVec.ofInt IntKind.u64.bits (x:Int)).toNat=x:=by
       show(BitVec.ofInt 64 (x:Int)).toNat=x
       rw[BitVec.toNat_ofInt];omega
      rw[e1]
      show x&&& 1=_
      exact Nat.and_one_is_mod x
     rw[this];omega
    have e8:(8*(n:Int))=((8*n:Nat):Int):=by omega
    have hlt:(cw a n+cw b n+c)%18446744073709551616<2^64:=Nat.mod_lt _ (by decide)
    rw[e8,hs _ _ hlt (by omega),hand _ (Nat.lt_of_le_of_lt (Nat.div_le_self _ _) hlt)]
    unfold eqI
    rcases hsz with rfl|rfl|rfl
    ·rw[show(2:Nat)^(8*1)=256 from rfl]at*
     rw[Bool.eq_iff_iff,decide_eq_true_eq,decide_eq_true_eq];omega
    ·rw[show(2:Nat)^(8*2)=65536 from rfl]at*
     rw[Bool.eq_iff_iff,decide_eq_true_eq,decide_eq_true_eq];omega
    ·rw[show(2:Nat)^(8*4)=4294967296 from rfl]at*
     rw[Bool.eq_iff_iff,decide_eq_true_eq,decide_eq_true_eq];omega
   rw[e]
  ·have h8:n=8:=by omega
   subst h8
   rw[aB (nW (by omega))]
   refine Ret.some ?_
   have e:eqI (((cw a 8+cw b 8+c)/18446744073709551616:Nat):Int) 1=decide ((cw a 8+cw b 8+c)/2^(8*8)=1):=by
    unfold eqI
    rw[show(2:Nat)^(8*8)=18446744073709551616 from rfl,Bool.eq_iff_iff,decide_eq_true_eq,decide_eq_true_eq];omega
   rw[e]
 ·rintro _ rfl
  rw[aE]
  dsimp only
  rw[bg _ n hn,qW hn,af]
  dsimp only
  rw[fx n hn,af,eG,af]
  dsimp only
  rw[nU n h1 h8,af,eG,af]
  refine Ret.some ?_
  have ho:je (ec .i64 (qZ .i64 a (kk (cw a n+cw b n+c) n)) (qZ .i64 b (kk (cw a n+cw b n+c) n))) (8*n-1)=(sumC n a b c != sumI n a b c):=by
   rw[tu,mr,mr,qF _ n _ h8 (by omega),jJ (v:=a) (n:=n) (by omega),jJ (v:=b) (n:=n) (by omega)]
   exact ovf _ _ _ _ (by omega) la lb hc
  dsimp only
  rw[ho]
  rfl
theorem ovfS (A B C m:Nat)(hm:1≤m)(hA:A<2^m)(hB:B<2^m)(hC:C≤1):
  ((decide (A/2^(m-1)%2=1)^^decide (B/2^(m-1)%2=1))&&(decide (A/2^(m-1)%2=1)^^decide ((A+2^m-B-C)/2^(m-1)%2=1)))=
  (decide (A<B+C) != decide (A%2^(m-1)<B%2^(m-1)+C)):=by
 obtain⟨k,rfl⟩:∃k,m=k+1:=⟨m-1,by omega⟩
 rw[show k+1-1=k by omega]
 have hp:0<2^k:=Nat.two_pow_pos k
 rw[Nat.pow_succ]at*
 generalize 2^k=P at*
 have a1:=Nat.div_add_mod A P
 have b1:=Nat.div_add_mod B P
 have a2:A/P<2:=by rw[Nat.div_lt_iff_lt_mul hp];omega
 have b2:B/P<2:=by rw[Nat.div_lt_iff_lt_mul hp];omega
 have a3:=Nat.mod_lt A hp
 have b3:=Nat.mod_lt B hp
 generalize A%P=x at*
 generalize B%P=y at*
 have hd:∀z k:Nat,k*P≤z→z<(k+1)*P→z/P=k:=fun z k h1 h2=>Nat.div_eq_of_lt_le h1 h2
 generalize A/P=p at*
 generalize B/P=q at*
 have hp':p=0∨p=1:=by omega
 have hq':q=0∨q=1:=by omega
 have key:∀k:Nat,(A+P*2-B-C)/P=k→∀b1 b2:Bool,decide (A<B+C)=b1→decide (x<y+C)=b2→
   ((decide (p%2=1)^^decide (q%2=1))&&(decide (p%2=1)^^decide (k%2=1)))=(b1 != b2)→
   ((decide (p%2=1)^^decide (q%2=1))&&(decide (p%2=1)^^decide ((A+P*2-B-C)/P%2=1)))=(decide (A<B+C) != decide (x<y+C)):=fun k e b1 b2 e1 e2 h=>by rw[e,e1,e2];exact h
 rcases hp' with rfl|rfl<;>rcases hq' with rfl|rfl<;>by_cases hb:x<y+C
 ·exact key 1 (hd _ _ (by omega) (by omega)) true true (decide_eq_true (by omega)) (decide_eq_true hb) (by decide)
 ·exact key 2 (hd _ _ (by omega) (by omega)) false false (decide_eq_false (by omega)) (decide_eq_false hb) (by decide)
 ·exact key 0 (hd _ _ (by omega) (by omega)) true true (decide_eq_true (by omega)) (decide_eq_true hb) (by decide)
 ·exact key 1 (hd _ _ (by omega) (by omega)) true false (decide_eq_true (by omega)) (decide_eq_false hb) (by decide)
 ·exact key 2 (hd _ _ (by omega) (by omega)) false true (decide_eq_false (by omega)) (decide_eq_true hb) (by decide)
 ·exact key 3 (hd _ _ (by omega) (by omega)) false false (decide_eq_false (by omega)) (decide_eq_false hb) (by decide)
 ·exact key 1 (hd _ _ (by omega) (by omega)) true true (decide_eq_true (by omega)) (decide_eq_true hb) (by decide)
 ·exact key 2 (hd _ _ (by omega) (by omega)) false false (decide_eq_false (by omega)) (decide_eq_false hb) (by decide)
theorem gn {a b:Int}{n c:Nat}(hn:cM (n:Int)=true)(ha:lL a n)(hb:lL b n)(hc:c≤1):
  bj (((n:Int),a,b,(c:Int),()),())=some (((vA n a b c).1,(vA n a b c).2,()),()):=by
 obtain⟨h1,h8⟩:=fi hn
 have ea:=wX hn ha
 have eb:=wX hn hb
 have la:=gJ a n
 have lb:=gJ b n
 unfold bj
 dsimp only
 rw[qm,qm,(mt hc).1,(mt hc).2,bn,bn,bn,fY,fY,ea,eb]
 have hpw:(2:Nat)^(8*n)≤18446744073709551616:=Nat.le_trans (Nat.pow_le_pow_right (by decide) (show 8*n≤64 by omega)) (by decide)
 have eS:ki ((cw a n:Nat):Int) ((cw b n:Nat):Int) (c:Int)=(((cw a n+18446744073709551616-cw b n-c)%18446744073709551616:Nat):Int):=by unfold ki;omega
 have eC:eqI (i7 ((cw a n:Nat):Int) ((cw b n:Nat):Int) (c:Int)) 1=subC n a b c:=by
  unfold i7 subC eqI
  rw[Bool.eq_iff_iff,decide_eq_true_eq,decide_eq_true_eq]
  split<;>omega
 have eV:kk (cw a n+18446744073709551616-cw b n-c) n=subV n a b c:=by
  unfold subV kk
  have:(cw a n+18446744073709551616-cw b n-c)%2^(8*n)=(cw a n+2^(8*n)-cw b n-c)%2^(8*n):=by
   have hd:(18446744073709551616:Nat)=2^(8*n)*(2^(64-8*n)-1)+2^(8*n):=by
    rw[Nat.mul_sub,←Nat.pow_add,show 8*n+(64-8*n)=64 by omega]
    omega
   generalize 2^(8*n)=Q at*
   generalize 2^(64-8*n)-1=R at*
   have e:cw a n+18446744073709551616-cw b n-c=(cw a n+Q-cw b n-c)+Q*R:=by omega
   rw[e,Nat.add_mul_mod_self_left]
  rw[this]
 rw[eS,eC,bg _ n hn,qW hn,eV,af]
 dsimp only
 rw[fx n hn,af,eG,af]
 dsimp only
 rw[nU n h1 h8,af,eG,af]
 have ho:je (ec .i64 (qZ .i64 a b) (qZ .i64 a (subV n a b c))) (8*n-1)=(subC n a b c != subI' n a b c):=by
  rw[tu,mr,mr]
  unfold subV
  rw[qF _ n _ h8 (by omega),jJ (v:=a) (n:=n) (by omega),jJ (v:=b) (n:=n) (by omega)]
  exact ovfS _ _ _ _ (by omega) la lb hc
 dsimp only
 rw[ho]
 rfl
def xR (op a b:Int):Int:=if op=2 then ior .i64 a b else if op=7 then qZ .i64 a b else ec .i64 a b
def zV (op:Int)(n:Nat)(a b f:Int):Int×Int:=
 if op=1 then xG n (dc a n) (dc b n) 0
 else if op=3 then xG n (dc a n) (dc b n) (f%2).toNat
 else if op=6 then vA n (dc a n) (dc b n) 0
 else if op=4 then vA n (dc a n) (dc b n) (f%2).toNat
 else if op=8 then(dc a n,(vA n (dc a n) (dc b n) 0).2)
 else if op=10 then(dc a n,yb n (ec .i64 (dc a n) (dc b n)))
 else(xR op (dc a n) (dc b n),yb n (xR op (dc a n) (dc b n)))
theorem fd {v:Int}(hv:I64 v){n:Nat}(hn:cM (n:Int)=true):I64 (dc v n):=by
 rw[gI hv hn];exact iM _ _
theorem zf {v:Int}(hv:I64 v){n:Nat}(hn:cM (n:Int)=true):cw (dc v n) n=cw v n:=by
 rw[gI hv hn]
 unfold cw
 rw[jY _ _ (fi hn).2,Nat.mod_mod,Nat.mod_mod]
theorem jr {v:Int}(hv:I64 v){n:Nat}(hn:cM (n:Int)=true):lL (dc v n) n:=by
 refine⟨?_,fd hv hn⟩
 rw[gI (fd hv hn) hn,zf hv hn,←gI hv hn]
theorem wo (f:Int):ec .i64 f 1=((f%2).toNat:Int):=by rw[yT];omega
theorem alu_eq {op a b f:Int}{n:Nat}(hn:cM (n:Int)=true)(ha:I64 a)(hb:I64 b):ij ((op,(n:Int),a,b,f,()),())=some (((zV op n a b f).1,(zV op n a b f).2,()),()):=by
 have oa:=jr ha hn
 have ob:=jr hb hn
 have s0:=xH (c:=0) hn oa ob (by decide)
 have s1:=xH (c:=(f%2).toNat) hn oa ob (by omega)
 have d0:=gn (c:=0) hn oa ob (by decide)
 have d1:=gn (c:=(f%2).toNat) hn oa ob (by omega)
 rw[show((0:Nat):Int)=0 from rfl]at s0 d0
 unfold ij zV
 dsimp only
 rw[bg _ n hn,bg _ n hn,af,af]
 dsimp only
 rw[wo,s0,s1,d0,d1]
 by_cases h1:op=1
 ·rw[ag (bU h1),if_pos h1,af]
 rw[aB (aP h1),if_neg h1]
 by_cases h3:op=3
 ·rw[ag (bU h3),if_pos h3,af]
 rw[aB (aP h3),if_neg h3]
 by_cases h6:op=6
 ·rw[ag (bU h6),if_pos h6,af]
 rw[aB (aP h6),if_neg h6]
 by_cases h4:op=4
 ·rw[ag (bU h4),if_pos h4,af]
 rw[aB (aP h4),if_neg h4]
 by_cases h8:op=8
 ·rw[ag (bU h8),if_pos h8,af]
 rw[aB (aP h8),if_neg h8]
 unfold xR
 by_cases h2:op=2
 ·rw[ag (bU h2),af,aE,fx n hn,af,if_neg (by omega),if_pos h2]
 rw[aB (aP h2)]
 by_cases h7:op=7
 ·rw[ag (bU h7),af,aE,af,aE,fx n hn,af,if_neg (by omega),if_neg h2,if_pos h7]
 rw[aB (aP h7)]
 by_cases h10:op=10
 ·rw[ag (bU h10),fx n hn,af,af,rL,af,rL,if_pos h10]
 rw[aB (aP h10),af,aE,af,aE,fx n hn,af,if_neg h10,if_neg h2,if_neg h7]
theorem jO (n:Int):cB ((n,()),())=some (decide (n=1∨n=2∨n=4∨n=8),()):=by
 unfold cB
 simp only[fP,af,eqI,←Bool.decide_or,or_assoc]
theorem j7:dy=cB:=rfl
theorem aR (n a b:Int):ar ((n,(a,(b,()))),())=some (decide (a≤n∧n≤b),()):=by
 unfold ar
 simp only[fo,af,leI,Bool.decide_and]
theorem cg:aA=ar:=rfl
def regL1:List (List UInt8):=[[97,108],[99,108],[100,108],[98,108],[115,112,108],[98,112,108],[115,105,108],[100,105,108],[114,56,98],[114,57,98],[114,49,48,98],[114,49,49,98],[114,49,50,98],[114,49,51,98],[114,49,52,98],[114,49,53,98],[97,104],[99,104],[100,104],[98,104]]
def regL2:List (List UInt8):=[[97,120],[99,120],[100,120],[98,120],[115,112],[98,112],[115,105],[100,105],[114,56,119],[114,57,119],[114,49,48,119],[114,49,49,119],[114,49,50,119],[114,49,51,119],[114,49,52,119],[114,49,53,119]]
def regL4:List (List UInt8):=[[101,97,120],[101,99,120],[101,100,120],[101,98,120],[101,115,112],[101,98,112],[101,115,105],[101,100,105],[114,56,100],[114,57,100],[114,49,48,100],[114,49,49,100],[114,49,50,100],[114,49,51,100],[114,49,52,100],[114,49,53,100]]
def regL8:List (List UInt8):=[[114,97,120],[114,99,120],[114,100,120],[114,98,120],[114,115,112],[114,98,112],[114,115,105],[114,100,105],[114,56],[114,57],[114,49,48],[114,49,49],[114,49,50],[114,49,51],[114,49,52],[114,49,53]]
def regL (s:Int):List (List UInt8):=if s=1 then regL1 else if s=2 then regL2 else if s=4 then regL4 else regL8
def jz (s:Int):Prop:=s=1∨s=2∨s=4∨s=8
instance (s:Int):Decidable (jz s):=by unfold jz;infer_instance
def regP (r s:Int):Prop:=0≤r∧r<(regL s).length
instance (r s:Int):Decidable (regP r s):=by unfold regP;infer_instance
def Ac (r s:Int):List UInt8:=if regP r s then(regL s).getD r.toNat []else []
theorem yZ (r s:Int):fK ((r,(s,())),())=some (decide (jz s∧(0≤r∧r≤15∨s=1∧16≤r∧r≤19)),()):=by
 unfold fK ap
 simp only[jO,aR,af,fP,fo,eqI]
 congr 2
 rw[Bool.eq_iff_iff]
 unfold jz
 simp
theorem pY {r s:Int}(h:jz s):(0≤r∧r≤15∨s=1∧16≤r∧r≤19)↔regP r s:=by
 unfold regP
 rcases h with rfl|rfl|rfl|rfl
 ·rw[show(regL 1).length=20 from rfl];omega
 ·rw[show(regL 2).length=16 from rfl];omega
 ·rw[show(regL 4).length=16 from rfl];omega
 ·rw[show(regL 8).length=16 from rfl];omega
theorem yG {d:Int}(h:I64 d):cm ((d,(4,())),())=some (decide (-2147483648≤d∧d≤2147483647),()):=by
 unfold I64 at h
 unfold cm ba
 have e:aT .i64 64 (bq .i64 8 4)=32:=by decide
 simp only[e]
 rw[ag (by decide),ag (by decide),af]
 congr 2
 unfold eqI dh gP
 rw[show min (32:Int).toNat (IntKind.bits .i64)=32 from by decide,IntKind.wrap_i64,Int.fdiv_eq_ediv_of_nonneg _ (by decide)]
 rw[Bool.eq_iff_iff]
 simp only[decide_eq_true_eq]
 omega
def kF (k r b i s d m:Int):Prop:=k=2∧r=0∧m=0∧ -1≤b∧b≤16∧ -1≤i∧i≤15∧i≠4∧(s=1∨i≠ -1∧(s=2∨s=4∨s=8))∧(b≠16∨i= -1)∧ -2147483648≤d∧d≤2147483647
instance (k r b i s d m:Int):Decidable (kF k r b i s d m):=by unfold kF;infer_instance
theorem tO {k r b i s d m:Int}(h:I64 d):bo (((k,(r,(b,(i,(s,(d,(m,()))))))),()),())=some (decide (kF k r b i s d m),()):=by
 unfold bo
 dsimp only[p5,p6]
 simp only[aR,yG h,fP,fo,af,eqI]
 congr 2
 rw[Bool.eq_iff_iff,decide_eq_true_eq]
 unfold kF
 simp only[Bool.and_eq_true,Bool.or_eq_true,decide_eq_true_eq,cE,decide_eq_false_iff_not]
 omega
def xY (k r b i s d m z:Int):Prop:=jz z∧
 (k=1∧b=0∧i=0∧s=0∧d=0∧m=0∧regP r z∨kF k r b i s d m∨k=3∧r=0∧b=0∧i=0∧s=0∧d=0∨k=0∧r=0∧b=0∧i=0∧s=0∧d=0∧m=0)
instance (k r b i s d m z:Int):Decidable (xY k r b i s d m z):=by unfold xY;infer_instance
theorem iE {a b:Bool}:ew a b=true↔a=true∧b=true:=by cases a<;>cases b<;>simp[ew]
theorem qx {k r b i s d m z:Int}(h:I64 d):cb (((k,(r,(b,(i,(s,(d,(m,()))))))),(z,())),())=some (decide (xY k r b i s d m z),()):=by
 unfold cb gR gQ
 dsimp only[p5,p6,d6]
 rw[jO,af]
 dsimp only
 by_cases hz:jz z
 ·rw[decide_eq_true (show z=1∨z=2∨z=4∨z=8 from hz),bP,aB rfl]
  have hr:=pY (r:=r) hz
  by_cases h1:k=1
  ·subst h1
   rw[ag (bU rfl),af]
   dsimp only
   rw[yZ,af]
   cases hc:ew (eqI 1 1) (ew (eqI r r) (ew (eqI b 0) (ew (eqI i 0) (ew (eqI s 0) (ew (eqI d 0) (eqI m 0))))))with
   |true=>
    rw[ag rfl]
    simp only[iE,ca]at hc
    congr 2
    rw[Bool.eq_iff_iff,decide_eq_true_eq,decide_eq_true_eq,hr]
    unfold xY kF
    simp[hz,hc.2.2.1,hc.2.2.2.1,hc.2.2.2.2.1,hc.2.2.2.2.2.1,hc.2.2.2.2.2.2]
   |false=>
    rw[aB rfl]
    congr 2
    symm
    refine decide_eq_false fun ho=>?_
    have:ew (eqI 1 1) (ew (eqI r r) (ew (eqI b 0) (ew (eqI i 0) (ew (eqI s 0) (ew (eqI d 0) (eqI m 0))))))=true:=by
     unfold xY kF at ho
     simp only[iE,ca]
     have h2:=ho.2
     simp at h2
     simp[h2]
    rw[this]at hc;cases hc
  ·rw[aB (aP h1)]
   by_cases h2:k=2
   ·subst h2
    rw[ag (bU rfl),tO h,af]
    congr 2
    rw[Bool.eq_iff_iff,decide_eq_true_eq,decide_eq_true_eq]
    unfold xY
    simp[hz]
   ·rw[aB (aP h2)]
    by_cases h3:k=3
    ·subst h3
     rw[ag (bU rfl),af]
     congr 2
     rw[Bool.eq_iff_iff,decide_eq_true_eq]
     simp only[iE,ca]
     unfold xY kF
     simp[hz]
    ·rw[aB (aP h3)]
     congr 2
     rw[Bool.eq_iff_iff,decide_eq_true_eq]
     simp only[iE,ca]
     unfold xY kF
     simp[hz,h1,h2,h3]
 ·rw[decide_eq_false (show ¬(z=1∨z=2∨z=4∨z=8)from hz),dO,ag rfl]
  congr 2
  symm
  exact decide_eq_false fun h=>hz h.1
theorem brF {α:Type}{c e:Bool}{u:α}:br c (some (false,u)) (some (e,u))=some (!c&&e,u):=by cases c<;>rfl
def ripS:List UInt8:=[114,105,112]
def p1 (b:Int):List (List UInt8):=if b=16 then [ripS]else if 0≤b then [Ac b 8]else []
def p2 (i s:Int):List (List UInt8):=if 0≤i then [Ac i 8++[42]++Go.Lib.itoa s]else []
def p3 (d:Int)(q:List (List UInt8)):List (List UInt8):=if d≠0∨q=[]then [Go.Lib.itoa d]else []
theorem rH {α β:Type}{xs:List α}{ys:List β}(h1:xs.length≤1000)(h2:ys.length≤1000):fa xs ys=true:=iK (by omega)
theorem zR {n:Nat}(h:n<9223372036854775808):IntKind.i64.wrap (n:Int)=n:=db ⟨by omega,by omega⟩
theorem qA (X M:BitVec 64):X&&& ~~~M=0#64↔X&&& M=X:=by
 constructor
 ·intro h
  apply BitVec.eq_of_getLsbD_eq
  intro i hi
  have:=congrArg (fun z:BitVec 64=>z.getLsbD i) h
  simp only[BitVec.getLsbD_and,BitVec.getLsbD_not,hi,decide_true,Bool.true_and,BitVec.getLsbD_zero]at this
  rw[BitVec.getLsbD_and]
  cases h1:X.getLsbD i<;>cases h2:M.getLsbD i<;>simp_all
 ·intro h
  apply BitVec.eq_of_getLsbD_eq
  intro i hi
  have:=congrArg (fun z:BitVec 64=>z.getLsbD i) h
  simp only[BitVec.getLsbD_and]at this
  simp only[BitVec.getLsbD_and,BitVec.getLsbD_not,hi,decide_true,Bool.true_and,BitVec.getLsbD_zero]
  cases h1:X.getLsbD i<;>cases h2:M.getLsbD i<;>simp_all
def bh (x:Int):Bool:=eqI (gG .i64 x 2245) 0
theorem iandn64 (x:Int):gG .i64 x 2245=IntKind.i64.wrap ((BitVec.ofInt 64 x&&& ~~~2245#64).toNat:Int):=rfl
theorem iand64 (x:Int):ec .i64 x 2245=IntKind.i64.wrap ((BitVec.ofInt 64 x&&& 2245#64).toNat:Int):=rfl
theorem yJ {x:Int}(h:I64 x):(decide (0≤x)&&eqI (ec .i64 x 2245) x)=bh x:=by
 unfold I64 at h
 unfold bh eqI
 rw[iandn64,iand64]
 generalize hX:BitVec.ofInt 64 x=X
 have hXi:X.toInt=x:=by rw[←hX,BitVec.toInt_ofInt];rw[Int.bmod_def];split<;>omega
 have hle:(X&&& 2245#64).toNat≤2245:=by rw[BitVec.toNat_and];exact Nat.and_le_right
 have hw1:IntKind.i64.wrap ((X&&& 2245#64).toNat:Int)=(X&&& 2245#64).toNat:=zR (by omega)
 have hz:IntKind.i64.wrap ((X&&& ~~~2245#64).toNat:Int)=0↔X&&& ~~~2245#64=0#64:=by
  have hlt:(X&&& ~~~2245#64).toNat<2^64:=BitVec.isLt _
  rw[IntKind.wrap_i64]
  constructor
  ·intro e
   apply BitVec.eq_of_toNat_eq
   rw[BitVec.toNat_zero]
   omega
  ·intro e;rw[e,BitVec.toNat_zero];decide
 rw[Bool.eq_iff_iff]
 simp only[Bool.and_eq_true,decide_eq_true_eq]
 rw[hw1,hz,qA]
 have hXn:(X.toNat:Int)=x∨(X.toNat:Int)=x+18446744073709551616:=by
  rw[BitVec.toInt_eq_toNat_cond]at hXi
  split at hXi<;>omega
 constructor
 ·rintro⟨h0,e⟩
  apply BitVec.eq_of_toNat_eq
  have:=X.isLt
  omega
 ·intro e
  rw[e]at hle⊢
  omega
theorem ta {c:List Int}{p f:Int}:dD (((c,(p,(f,()))),()),())=some (bh f,()):=by
 unfold dD eO
 rfl
theorem tF {f:Int}(hI:I64 f)(h:bh f=true):∃u:Nat,u<2246∧f=u∧u&&& 2245=u:=by
 rw[←yJ hI,Bool.and_eq_true,decide_eq_true_eq,ca]at h
 obtain⟨h0,h1⟩:=h
 obtain⟨u,rfl⟩:=Int.eq_ofNat_of_zero_le h0
 have e:=uk (u:Int) 2245
 rw[h1,eJ (by unfold I64 at hI;omega),show uns 2245=2245 from rfl]at e
 refine⟨u,?_,rfl,e.symm⟩
 have:u&&& 2245≤2245:=Nat.and_le_right
 omega
def flK (u:Nat):Bool:=u&&& 2245 != u||(gG .i64 (u:Int) 2049==ec .i64 (u:Int) 196)
theorem flK_all:∀u:Nat,u<2246→flK u=true:=by decide +kernel
theorem wg {f:Int}(hI:I64 f)(h:bh f=true):gG .i64 f 2049=ec .i64 f 196:=by
 obtain⟨u,hu,rfl,hm⟩:=tF hI h
 have:=flK_all u hu
 unfold flK at this
 rw[hm]at this
 simpa using this
def mkF (s z p:Bool):Int:=ior .i64 (ior .i64 (if s=true then 128 else 0) (if z=true then 64 else 0)) (if p=true then 4 else 0)
def mkG (k:Int)(c o:Bool):Int:=ior .i64 (ior .i64 k (if c=true then 1 else 0)) (if o=true then 2048 else 0)
theorem qj (n:Nat)(v:Int):yb n v=mkF (je v (8*n-1)) (decide (dc v n=0)) (parB v):=by
 unfold yb mkF;simp only[decide_eq_true_eq]
theorem pi (n:Nat)(v:Int)(c i:Bool):addF n v c i=mkG (mkF (je v (8*n-1)) (decide (dc v n=0)) (parB v)) c (c != i):=by
 unfold addF mkG;rw[qj]
theorem zk (s z p:Bool):gG .i64 (mkF s z p) 2049=mkF s z p:=by cases s<;>cases z<;>cases p<;>decide
theorem mkF_ok (s z p:Bool):bh (mkF s z p)=true∧I64 (mkF s z p):=by cases s<;>cases z<;>cases p<;>decide
theorem wZ (s z p c o:Bool):bh (mkG (mkF s z p) c o)=true∧I64 (mkG (mkF s z p) c o):=by cases s<;>cases z<;>cases p<;>cases c<;>cases o<;>decide
def flL (u:Nat)(c o:Bool):Bool:=u&&& 2245 != u||(bh (mkG (ec .i64 (u:Int) 196) c o)&&decide (I64 (mkG (ec .i64 (u:Int) 196) c o)))
theorem flL_all:∀u:Nat,u<2246→(flL u false false&&flL u false true&&flL u true false&&flL u true true)=true:=by decide +kernel
theorem keep_ok {f:Int}(hI:I64 f)(h:bh f=true)(c o:Bool):bh (mkG (ec .i64 f 196) c o)=true∧I64 (mkG (ec .i64 f 196) c o):=by
 obtain⟨u,hu,rfl,hm⟩:=tF hI h
 have:=flL_all u hu
 simp only[Bool.and_eq_true]at this
 obtain⟨⟨⟨h1,h2⟩,h3⟩,h4⟩:=this
 unfold flL at h1 h2 h3 h4
 rw[hm]at h1 h2 h3 h4
 simp only[bne_self_eq_false,Bool.false_or,Bool.and_eq_true,decide_eq_true_eq]at h1 h2 h3 h4
 cases c<;>cases o
 ·exact h1
 ·exact h2
 ·exact h3
 ·exact h4
def oneF (d f:Int):Int:=ior .i64 (gG .i64 d 1) (ec .i64 f 1)
theorem xi (s z p c o:Bool)(f:Int):bh (oneF (mkG (mkF s z p) c o) f)=true∧I64 (oneF (mkG (mkF s z p) c o) f):=by
 unfold oneF
 rw[yT]
 have:f%2=0∨f%2=1:=by omega
 rcases this with h|h<;>rw[h]<;>cases s<;>cases z<;>cases p<;>cases c<;>cases o<;>decide
theorem jb (a b:Int):I64 (ior .i64 a b):=ax _
theorem yd (a b:Int):I64 (ec .i64 a b):=ax _
theorem tb (a b:Int):I64 (qZ .i64 a b):=ax _
theorem sW (n:Nat)(a b:Int)(c:Nat):I64 (xG n a b c).1∧bh (xG n a b c).2=true∧I64 (xG n a b c).2:=by
 unfold xG;dsimp only;rw[pi];exact⟨iM _ _,wZ ..⟩
theorem nS (n:Nat)(a b:Int)(c:Nat):I64 (vA n a b c).1∧bh (vA n a b c).2=true∧I64 (vA n a b c).2:=by
 unfold vA;dsimp only;rw[pi];exact⟨iM _ _,wZ ..⟩
theorem xJ (n:Nat)(v:Int):bh (yb n v)=true∧I64 (yb n v):=by rw[qj];exact mkF_ok ..
theorem aluM_ok {op a b f:Int}{n:Nat}(hn:cM (n:Int)=true)(ha:I64 a):I64 (zV op n a b f).1∧bh (zV op n a b f).2=true∧I64 (zV op n a b f).2:=by
 unfold zV
 have hl:=fd ha hn
 have hw:I64 (xR op (dc a n) (dc b n)):=by
  unfold xR
  split
  ·exact jb ..
  ·split
   ·exact tb ..
   ·exact yd ..
 split
 ·exact sW ..
 split
 ·exact sW ..
 split
 ·exact nS ..
 split
 ·exact nS ..
 split
 ·exact⟨hl,(nS ..).2⟩
 split
 ·exact⟨hl,xJ ..⟩
 ·exact⟨hw,xJ ..⟩
def Ai (op:Int)(n:Nat)(a f:Int):Int×Int:=
 if op=11 then(dc (inot .i64 (dc a n)) n,f)
 else if op=12 then vA n 0 (dc a n) 0
 else if op=19 then((vA n (dc a n) 1 0).1,oneF (vA n (dc a n) 1 0).2 f)
 else((xG n (dc a n) 1 0).1,oneF (xG n (dc a n) 1 0).2 f)
theorem wV {n:Nat}(hn:cM (n:Int)=true):lL 1 n:=by
 rcases vH hn with rfl|rfl|rfl|rfl<;>exact⟨rfl,by decide⟩
theorem lowOK_0 {n:Nat}(hn:cM (n:Int)=true):lL 0 n:=by
 rcases vH hn with rfl|rfl|rfl|rfl<;>exact⟨rfl,by decide⟩
theorem one_eq {op a f:Int}{n:Nat}(hn:cM (n:Int)=true)(ha:I64 a):il ((op,(n:Int),a,f,()),())=some (((Ai op n a f).1,(Ai op n a f).2,()),()):=by
 have oa:=jr ha hn
 have s1:=xH (c:=0) hn oa (wV hn) (by decide)
 have d1:=gn (c:=0) hn oa (wV hn) (by decide)
 have d0:=gn (c:=0) hn (lowOK_0 hn) oa (by decide)
 rw[show((0:Nat):Int)=0 from rfl]at s1 d0 d1
 unfold il Ai
 dsimp only
 rw[bg _ n hn,af]
 dsimp only
 rw[s1,d1,d0]
 by_cases h11:op=11
 ·rw[ag (bU h11),if_pos h11,bg _ n hn,af]
 rw[aB (aP h11),if_neg h11]
 by_cases h12:op=12
 ·rw[ag (bU h12),if_pos h12,af]
 rw[aB (aP h12),if_neg h12,af]
 by_cases h19:op=19
 ·rw[ag (bU h19),if_pos h19,af,af,aE]
  rfl
 rw[aB (aP h19),if_neg h19,af,aE]
 rfl
theorem oneM_ok {op a f:Int}{n:Nat}(hn:cM (n:Int)=true)(hI:I64 f)(hf:bh f=true):I64 (Ai op n a f).1∧bh (Ai op n a f).2=true∧I64 (Ai op n a f).2:=by
 unfold Ai
 split
 ·exact⟨fd (tb _ _) hn,hf,hI⟩
 split
 ·exact nS ..
 split
 ·refine⟨(nS ..).1,?_⟩
  unfold vA;dsimp only;rw[pi];exact xi ..
 ·refine⟨(sW ..).1,?_⟩
  unfold xG;dsimp only;rw[pi];exact xi ..
def vj (op:Int)(m u:Nat):Nat:=
 if op=20 then(2*u)%2^m+u/2^(m-1)
 else if op=22 then(2*u)%2^m
 else if op=23 then u/2
 else if op=24 then u/2+(u/2^(m-1))*2^(m-1)
 else u/2+(u%2)*2^(m-1)
def ku (op:Int)(n:Nat)(a:Int):Int:=kk (vj op (8*n) (cw a n)) n
def onceC (op:Int)(n:Nat)(a:Int):Bool:=if op=20∨op=22 then je a (8*n-1)else je a 0
def onceO (op:Int)(n:Nat)(a:Int):Bool:=
 if op=20∨op=22 then je (ku op n a) (8*n-1) != je a (8*n-1)
 else if op=23 then je a (8*n-1)else if op=24 then false else je (ku op n a) (8*n-1) != je (ku op n a) (8*n-2)
def zr (op:Int)(n:Nat)(a f:Int):Int:=if op=20∨op=21 then ec .i64 f 196 else yb n (ku op n a)
def rk (op:Int)(n:Nat)(a f:Int):Int×Int:=(ku op n a,mkG (zr op n a f) (onceC op n a) (onceO op n a))
theorem t8 {op:Int}{m u:Nat}(hm:1≤m)(hu:u<2^m):vj op m u<2^m:=by
 obtain⟨k,rfl⟩:∃k,m=k+1:=⟨m-1,by omega⟩
 unfold vj
 rw[show k+1-1=k by omega]
 rw[Nat.pow_succ]at*
 have hp:0<2^k:=Nat.two_pow_pos k
 generalize 2^k=P at*
 have h2:u/P<2:=by rw[Nat.div_lt_iff_lt_mul hp];omega
 have h3:(2*u)%(P*2)=2*(u%P):=by rw[Nat.mul_comm P 2,Nat.mul_mod_mul_left]
 have h4:=Nat.mod_lt u hp
 have h5:u/P=0∨u/P=1:=by generalize u/P=q at *;omega
 split
 ·rw[h3];generalize u/P=q at *;generalize u%P=r at *;omega
 split
 ·rw[h3];generalize u%P=r at *;omega
 split
 ·omega
 split
 ·rcases h5 with h|h<;>rw[h]
  ·omega
  ·omega
 ·have:u%2=0∨u%2=1:=by omega
  rcases this with h|h<;>rw[h]<;>omega
theorem iw (op:Int){n:Nat}(hn:cM (n:Int)=true)(a:Int):uns (ku op n a)=vj op (8*n) (cw a n):=by
 obtain⟨h1,h8⟩:=fi hn
 unfold ku
 rw[jY _ _ h8,Nat.mod_eq_of_lt (t8 (by omega) (gJ a n))]
theorem fV (op:Int)(n:Nat)(a:Int):I64 (ku op n a):=iM _ _
theorem xM (a:Int):uns (gP .i64 a 1)=(2*uns a)%2^64:=by
 unfold gP
 rw[bV]
 show uns (a*2^1)=_
 unfold uns;omega
theorem zM (b:Bool){k:Nat}(hk:k<2^64):uns (if b=true then(k:Int)else 0)=if b=true then k else 0:=by
 cases b
 ·rfl
 ·exact eJ hk
theorem or_one {x:Nat}(h:x%2=0)(b:Bool):x|||(if b=true then 1 else 0)=x+(if b=true then 1 else 0):=by
 obtain⟨y,rfl⟩:∃y,x=2^1*y:=⟨x/2,by omega⟩
 cases b
 ·simp
 ·rw[if_pos rfl,←Nat.two_pow_add_eq_or_of_lt (i:=1) (by decide) y]
theorem Al {x k:Nat}(h:x<2^k)(b:Bool):x|||(if b=true then 2^k else 0)=x+(if b=true then 1 else 0)*2^k:=by
 cases b
 ·simp
 ·rw[if_pos rfl,if_pos rfl,Nat.or_comm]
  have:=Nat.two_pow_add_eq_or_of_lt h 1
  rw[Nat.mul_one]at this
  rw[←this];omega
theorem yl (a:Int)(n:Nat)(hn:1≤n):cw a n%2=if je a 0=true then 1 else 0:=by
 rw[jJ (n:=n) (k:=0) (by omega),Nat.pow_zero,Nat.div_one]
 by_cases h:cw a n%2=1
 ·rw[decide_eq_true h,h];rfl
 ·rw[decide_eq_false h,if_neg (by decide)];omega
theorem tw (a:Int)(n:Nat)(hn:1≤n):cw a n/2^(8*n-1)=if je a (8*n-1)=true then 1 else 0:=by
 rw[jJ (n:=n) (k:=8*n-1) (by omega)]
 have h2:cw a n/2^(8*n-1)<2:=by
  rw[Nat.div_lt_iff_lt_mul (Nat.two_pow_pos _),Nat.mul_comm,←Nat.pow_succ,show(8*n-1).succ=8*n by omega]
  exact gJ a n
 generalize cw a n/2^(8*n-1)=q at*
 have:q=0∨q=1:=by omega
 rcases this with rfl|rfl<;>rfl
theorem wW (a:Int):eqI (ec .i64 a 1) 1=je a 0:=by
 rw[yT];unfold eqI je
 rw[Bool.eq_iff_iff,decide_eq_true_eq,decide_eq_true_eq];omega
theorem xy {v:Int}:aH .i64 (dh .u64 (aH .u64 v) 1)=kk (uns v/2) 8:=by
 rw[fY]
 unfold dh aH kk
 show IntKind.wrap .i64 (Int.fdiv (uns v:Int) (2^1))=_
 rw[Int.fdiv_eq_ediv_of_nonneg _ (by decide)]
 have:=fj v
 have e:((uns v:Nat):Int)/2^1=((uns v/2%2^(8*8):Nat):Int):=by
  rw[Nat.mod_eq_of_lt (by omega)];omega
 rw[e]
theorem wn {n:Nat}(hn:cM (n:Int)=true):∃h:Int,gP .i64 1 (8*(n:Int)-1)=h∧uns h=2^(8*n-1)∧∀b:Bool,uns (if b=true then h else 0)=if b=true then 2^(8*n-1)else 0:=by
 refine⟨_,rfl,?_,fun b=>?_⟩
 ·rcases vH hn with rfl|rfl|rfl|rfl<;>decide
 ·rcases vH hn with rfl|rfl|rfl|rfl<;>cases b<;>decide
theorem neB (a b:Bool):aX (eqB a b)=(a != b):=by cases a<;>cases b<;>rfl
theorem iW {v:Int}(hv:I64 v){n:Nat}(hn:cM (n:Int)=true):uns (dc v n)=cw v n:=by
 rw[gI hv hn,jY _ _ (fi hn).2];exact Nat.mod_eq_of_lt (gJ v n)
theorem rb {a:Int}{n:Nat}(hn:cM (n:Int)=true)(ea:uns a=cw a n):cw (gP .i64 a 1) n=2*cw a n%2^(8*n):=by
 have h8:=(fi hn).2
 rw[←ea]
 unfold cw
 rw[xM,Nat.mod_mod_of_dvd]
 exact⟨2^(64-8*n),by rw[←Nat.pow_add,show 8*n+(64-8*n)=64 by omega]⟩
theorem wl {u n:Nat}(hn:1≤n)(hu:u<2^(8*n)):u/2<2^(8*n-1):=by
 have:(2:Nat)^(8*n)=2^(8*n-1)*2:=by rw[←Nat.pow_succ,show(8*n-1).succ=8*n by omega]
 omega
theorem yD {u n:Nat}(hn:1≤n):2*u%2^(8*n)%2=0:=by
 have:(2:Nat)^(8*n)=2^(8*n-1)*2:=by rw[←Nat.pow_succ,show(8*n-1).succ=8*n by omega]
 have h:=Nat.mul_mod_mul_left 2 u (2^(8*n-1))
 rw[this,Nat.mul_comm _ 2,h];omega
theorem rE {op a f:Int}{n:Nat}(hop:20≤op∧op≤24)(hn:cM (n:Int)=true)(ha:lL a n)(hI:I64 f)(hf:bh f=true):
  dq ((op,(n:Int),a,f,()),())=some (((rk op n a f).1,(rk op n a f).2,()),()):=by
 obtain⟨h1,h8⟩:=fi hn
 have ea:=wX hn ha
 unfold dq
 dsimp only[p5,p6,p7,p8,p9,p10]
 rw[nU n h1 h8,af]
 dsimp only
 rw[cx (by omega) (by omega),gb (by omega) (by omega),ag (fT (by omega)),wW]
 obtain⟨H,hH,hHu,hHb⟩:=wn hn
 rw[hH]
 refine(Ret.bnd (Q:=fun y=>y=Sum.inl ((op,(n:Int),a,f,je a (8*n-1),je a 0,H,je a 0,false,op,eqI op 22||eqI op 20,()),())) ?_ ?_).eq
 ·cases eqI op 22
  ·exact Ret.some rfl
  ·exact Ret.some rfl
 rintro _ rfl
 rw[aE]
 dsimp only
 have hl:=gJ a n
 have hlz:I64 (gP .i64 a 1):=ax _
 have u8:uns (kk (uns a/2) 8)=cw a n/2:=by
  rw[jY _ _ (by decide),ea]
  have:=fj a
  rw[ea]at this
  exact Nat.mod_eq_of_lt (by omega)
 refine Ret.bnd (Q:=fun y=>y=Sum.inl ((op,(n:Int),f,ku op n a,onceC op n a,onceO op n a,()),())) ?_ ?_
 ·have hcase:op=20∨op=21∨op=22∨op=23∨op=24:=by omega
  rcases hcase with rfl|rfl|rfl|rfl|rfl
  ·have hv:ior .i64 (dc (gP .i64 a 1) n) (if je a (8*n-1)=true then 1 else 0)=ku 20 n a:=by
    refine iV (jb _ _) (fV ..) ?_
    rw[qn,iW hlz hn,rb hn ea,iw 20 hn,show(1:Int)=((1:Nat):Int)from rfl,zM _ (by decide),or_one (yD h1)]
    show _=2*cw a n%2^(8*n)+cw a n/2^(8*n-1)
    rw[tw a n h1]
   rw[show(eqI 20 22||eqI 20 20)=true from rfl,bn,bg _ n hn,af,show eqI 20 20=true from rfl,bn,eG,af,af,aE]
   dsimp only
   rw[hv,nU n h1 h8,af,neB]
   exact Ret.some rfl
  ·have hv:ior .i64 (kk (uns a/2) 8) (if je a 0=true then H else 0)=ku 21 n a:=by
    refine iV (jb _ _) (fV ..) ?_
    rw[qn,u8,iw 21 hn,hHb,Al (wl h1 hl)]
    show _=cw a n/2+cw a n%2*2^(8*n-1)
    rw[yl a n h1]
   rw[show(eqI 21 22||eqI 21 20)=false from rfl,aL,show eqI 21 23=false from rfl,aL,show eqI 21 24=false from rfl,aL,eG,af]
   dsimp only
   rw[xy,hv,cx (by omega) (by omega),gb (by omega) (by omega),ag (fT (by omega)),nU n h1 h8,af,af,aE,af,aE]
   rw[show 8*(n:Int)-2=((8*n-2:Nat):Int)by omega,xz _ (by omega),neB]
   exact Ret.some rfl
  ·have hv:dc (gP .i64 a 1) n=ku 22 n a:=by
    refine iV (fd hlz hn) (fV ..) ?_
    rw[iW hlz hn,rb hn ea,iw 22 hn]
    unfold vj
    rw[if_neg (by decide),if_pos rfl]
   rw[show(eqI 22 22||eqI 22 20)=true from rfl,bn,bg _ n hn,af,show eqI 22 20=false from rfl,aL,af,aE]
   dsimp only
   rw[hv,nU n h1 h8,af,neB]
   exact Ret.some rfl
  ·have hv:kk (uns a/2) 8=ku 23 n a:=by
    refine iV (iM ..) (fV ..) ?_
    rw[u8,iw 23 hn]
    unfold vj
    rw[if_neg (by decide),if_neg (by decide),if_pos rfl]
   rw[show(eqI 23 22||eqI 23 20)=false from rfl,aL,show eqI 23 23=true from rfl,bn,af,aE,xy,hv]
   exact Ret.some rfl
  ·have hv:ior .i64 (kk (uns a/2) 8) (if je a (8*n-1)=true then H else 0)=ku 24 n a:=by
    refine iV (jb _ _) (fV ..) ?_
    rw[qn,u8,iw 24 hn,hHb,Al (wl h1 hl)]
    show _=cw a n/2+cw a n/2^(8*n-1)*2^(8*n-1)
    rw[tw a n h1]
   rw[show(eqI 24 22||eqI 24 20)=false from rfl,aL,show eqI 24 23=false from rfl,aL,show eqI 24 24=true from rfl,bn,eG,af,af,aE,af,aE]
   dsimp only
   rw[xy,hv]
   exact Ret.some rfl
 rintro _ rfl
 rw[aE]
 dsimp only
 refine Ret.bnd (Q:=fun y=>y=(eqI op 22||eqI op 23)) ?_ ?_
 ·cases eqI op 22
  ·exact Ret.some rfl
  ·exact Ret.some rfl
 rintro _ rfl
 refine Ret.bnd (Q:=fun y=>y=(eqI op 22||eqI op 23||eqI op 24)) ?_ ?_
 ·cases (eqI op 22||eqI op 23)
  ·exact Ret.some rfl
  ·exact Ret.some rfl
 rintro _ rfl
 have hrot:(eqI op 22||eqI op 23||eqI op 24)= !decide (op=20∨op=21):=by
  rw[Bool.eq_iff_iff]
  simp only[eqI,Bool.or_eq_true,decide_eq_true_eq,Bool.not_eq_true',decide_eq_false_iff_not];omega
 rw[hrot]
 refine Ret.bnd (Q:=fun y=>∃k,y=Sum.inl ((ku op n a,onceC op n a,onceO op n a,k,()),())∧gG .i64 k 2049=zr op n a f) ?_ ?_
 ·unfold zr
  by_cases hr:op=20∨op=21
  ·rw[decide_eq_true hr,if_pos hr]
   exact Ret.some ⟨f,rfl,wg hI hf⟩
  ·rw[decide_eq_false hr,if_neg hr]
   show Ret (bnd _ _) _
   rw[fx n hn,af]
   exact Ret.some ⟨_,rfl,by rw[qj,zk]⟩
 rintro _ ⟨k,rfl,hk⟩
 rw[aE]
 dsimp only
 rw[eG,af,eG,af]
 dsimp only
 rw[hk]
 exact Ret.some rfl
theorem t7 {op a f:Int}{n:Nat}(hn:cM (n:Int)=true)(hI:I64 f)(hf:bh f=true):lL (rk op n a f).1 n∧bh (rk op n a f).2=true∧I64 (rk op n a f).2:=by
 unfold rk
 dsimp only
 refine⟨⟨?_,fV ..⟩,?_⟩
 ·rw[gI (fV ..) hn]
  refine iV (iM ..) (fV ..) ?_
  rw[jY _ _ (fi hn).2,Nat.mod_eq_of_lt (gJ _ _)]
  unfold cw
  rw[iw op hn,Nat.mod_eq_of_lt (t8 (by have:=fi hn;omega) (gJ a n))]
 ·unfold zr
  split
  ·exact keep_ok hI hf _ _
  ·rw[qj];exact wZ ..
def ss (op:Int)(n:Nat):Nat→Int×Int→Int×Int
 |0,x=>x
 |k+1,x=>ss op n k (rk op n x.1 x.2)
theorem tQ {op:Int}{n:Nat}(hn:cM (n:Int)=true):∀(k:Nat) (x:Int×Int),lL x.1 n→bh x.2=true→I64 x.2→lL (ss op n k x).1 n∧bh (ss op n k x).2=true∧I64 (ss op n k x).2
 |0,x,h1,h2,h3=>⟨h1,h2,h3⟩
 |k+1,x,_,h2,h3=>by
  have:=t7 (op:=op) (a:=x.1) hn h3 h2
  exact tQ hn k _ this.1 this.2.1 this.2.2
def shcM (n:Nat)(k:Int):Nat:=if n=8 then(k%64).toNat else(k%32).toNat
def nP (op:Int)(n:Nat)(a k f:Int):Int×Int:=ss op n (shcM n k) (dc a n,f)
theorem cnt_eq {n:Nat}(hn:cM (n:Int)=true)(k:Int):ec .i64 k (aF .i64 31 (if eqI (n:Int) 8=true then 32 else 0))=(shcM n k:Int):=by
 unfold shcM
 by_cases h:n=8
 ·subst h
  rw[show eqI ((8:Nat):Int) 8=true from rfl,if_pos rfl,if_pos rfl,show aF .i64 31 32=2^6-1 from by decide,mu k 6 (by decide)]
  show k%64=_
  omega
 ·rw[show eqI (n:Int) 8=false from aP (by omega),if_neg (by decide),if_neg h,show aF .i64 31 0=2^5-1 from by decide,mu k 5 (by decide)]
  show k%32=_
  omega
theorem shc_lt (n:Nat)(k:Int):shcM n k<64:=by unfold shcM;split<;>omega
theorem zD {op a k f:Int}{n:Nat}(hop:20≤op∧op≤24)(hn:cM (n:Int)=true)(ha:I64 a)(hI:I64 f)(hf:bh f=true):
  fL ((op,(n:Int),a,k,f,()),())=some (((nP op n a k f).1,(nP op n a k f).2,()),()):=by
 unfold fL nP
 dsimp only
 rw[bg _ n hn,af,eG,af]
 dsimp only
 rw[cnt_eq hn]
 have hc:=shc_lt n k
 generalize shcM n k=c at hc⊢
 dsimp only[p5]
 refine(Ret.iter (fun y=>∃(i:Nat) (z:Int×Int),i≤c∧lL z.1 n∧bh z.2=true∧I64 z.2∧ss op n (c-i) z=ss op n c (dc a n,f)∧y=((op,(n:Int),z.1,z.2,(c:Int),(i:Int),()),())) (fun y=>c-y.1.2.2.2.2.2.1.toNat)
  ?_ F _ ⟨0,(dc a n,f),by omega,jr ha hn,hf,hI,rfl,rfl⟩ (by unfold F;dsimp only;omega)).eq
 rintro _ rec ⟨i,z,hi,hz,hzf,hzI,he,rfl⟩ hrec
 dsimp only
 by_cases h:i<c
 ·rw[ag (nX (by omega)),rE hop hn hz hzI hzf,af,bS (by omega) (by omega)]
  have ok:=t7 (op:=op) (a:=z.1) hn hzI hzf
  refine hrec _ ⟨i+1,rk op n z.1 z.2,by omega,ok.1,ok.2.1,ok.2.2,?_,rfl⟩ (by dsimp only;omega)
  rw[←he,show c-i=(c-(i+1))+1 by omega];rfl
 ·have:i=c:=by omega
  subst this
  rw[aB (nW (by omega))]
  rw[Nat.sub_self]at he
  refine Ret.some ?_
  rw[←he];rfl
theorem xx {op a k f:Int}{n:Nat}(hn:cM (n:Int)=true)(ha:I64 a)(hI:I64 f)(hf:bh f=true):I64 (nP op n a k f).1∧bh (nP op n a k f).2=true∧I64 (nP op n a k f).2:=by
 have:=tQ (op:=op) hn (shcM n k) (dc a n,f) (jr ha hn) hf hI
 exact⟨this.1.2,this.2⟩
theorem i9 (m:Nat):((2^m:Nat):Int)=(2:Int)^m:=by simp
theorem addU (a b:Int):aF .u64 a b=(a+b)%18446744073709551616:=by unfold aF;exact iB
theorem mulU (a b:Int):bq .u64 a b=(a*b)%18446744073709551616:=by unfold bq;exact iB
theorem subU (a b:Int):aT .u64 a b=(a-b)%18446744073709551616:=by unfold aT;exact iB
theorem uf (x:Int)(k:Nat)(hk:k≤64):dh .u64 x (k:Int)=x/2^k:=by
 unfold dh
 rw[Int.toNat_natCast,show min k IntKind.u64.bits=k by simp[IntKind.bits];omega]
 rw[Int.fdiv_eq_ediv_of_nonneg _ (Int.le_of_lt (Int.pow_pos (by decide)))]
theorem shlU64 (x:Int)(k:Nat)(hk:k≤64):gP .u64 x (k:Int)=x*2^k%18446744073709551616:=by
 unfold gP
 rw[Int.toNat_natCast,show min k IntKind.u64.bits=k by simp[IntKind.bits];omega]
 exact iB
theorem tn {x:Int}(h0:0≤x)(h1:x<18446744073709551616):ec .u64 x 4294967295=x%4294967296:=by
 unfold ec
 rw[iB]
 have:(BitVec.ofInt IntKind.u64.bits x&&& BitVec.ofInt IntKind.u64.bits 4294967295).toNat=(x%4294967296).toNat:=by
  rw[BitVec.toNat_and]
  have e1:(BitVec.ofInt IntKind.u64.bits x).toNat=x.toNat:=by
   show(BitVec.ofInt 64 x).toNat=x.toNat
   rw[BitVec.toNat_ofInt];omega
  rw[e1]
  show x.toNat&&& (2^32-1)=_
  rw[Nat.and_two_pow_sub_one_eq_mod];omega
 rw[this];omega
theorem yf {x y:Int}(hx0:0≤x)(hx:x<18446744073709551616)(hy0:0≤y)(hy:y<18446744073709551616):cV ((x,y,()),())=some ((x*y/18446744073709551616,x*y%18446744073709551616,()),()):=by
 unfold cV
 dsimp only
 have h:=mul64_arith x y hx0 hx hy0 hy
 have s32:∀z,dh .u64 z 32=z/4294967296:=fun z=>uf z 32 (by decide)
 have m0:∀z:Int,0≤z%18446744073709551616∧z%18446744073709551616<18446744073709551616:=fun z=>by omega
 simp only[s32,mulU,addU]
 rw[tn hx0 hx,tn hy0 hy,tn (m0 _).1 (m0 _).2,h]
theorem oo {a b:Int}:cG ((a,b,()),())=some ((kk (uns a*uns b/18446744073709551616) 8,kk (uns a*uns b) 8,()),()):=by
 have ha:=fj a
 have hb:=fj b
 unfold cG
 dsimp only
 rw[fY,fY,yf (by omega) (by omega) (by omega) (by omega),af]
 have e1:aH .i64 (((uns a:Nat):Int)*((uns b:Nat):Int)/18446744073709551616)=kk (uns a*uns b/18446744073709551616) 8:=by
  unfold kk aH
  have:uns a*uns b/18446744073709551616<2^(8*8):=by
   rw[Nat.div_lt_iff_lt_mul (by decide)]
   calc uns a*uns b<2^64*2^64:=Nat.mul_lt_mul'' ha hb
    _=_:=by decide
  rw[Nat.mod_eq_of_lt this]
  congr 1
 have e2:aH .i64 (((uns a:Nat):Int)*((uns b:Nat):Int)%18446744073709551616)=kk (uns a*uns b) 8:=by
  unfold kk aH
  congr 1
 dsimp only
 rw[e1,e2]
theorem sx_bdA (m:Nat)(hm:m≤63)(v:Int): -(2:Int)^m≤sx m v∧sx m v<2^m:=by
 unfold sx
 have hp:(0:Int)<2^(m+1):=Int.pow_pos (by decide)
 have h1:=Int.emod_nonneg v (Int.ne_of_gt hp)
 have h2:=Int.emod_lt_of_pos v hp
 have hd:(2:Int)^(m+1)=2^m*2:=Int.pow_succ 2 m
 have hb:v%2^64/2^m%2=v%2^(m+1)/2^m:=by
  have h64:(2:Int)^(m+1)*2^(63-m)=2^64:=by rw[←Int.pow_add];congr 1;omega
  have h1:v%2^(m+1)=v%2^64%2^(m+1):=by
   rw[Int.emod_emod_of_dvd]
   exact⟨2^(63-m),h64.symm⟩
  rw[h1,Int.pow_succ 2 m]
  have hu:=bf v
  rw[←hu]
  rw[←i9 m]
  have h2:((2^m:Nat):Int)*2=((2^m*2:Nat):Int):=by simp
  rw[h2]
  rw[←Int.natCast_ediv,←Int.natCast_emod,←Int.natCast_ediv,Nat.mod_mul_right_div_self]
  simp
 rw[hb]
 have hpm:(0:Int)<2^m:=Int.pow_pos (by decide)
 generalize v%2^(m+1)=r at*
 by_cases hs:(2:Int)^m≤r
 ·have hq:r/2^m=1:=by
   rw[Int.ediv_eq_iff_of_pos hpm];omega
  rw[hq,if_pos rfl];omega
 ·have hq:r/2^m=0:=Int.ediv_eq_zero_of_lt h1 (by omega)
  rw[hq,if_neg (by decide)];omega
def mQ (sg:Bool)(n:Nat)(a:Int):Int:=if sg=true then sx (8*n-1) a else(cw a n:Int)
def jH (n:Nat)(z:Int):Int:=IntKind.wrap .i64 (z%2^(8*n))
def xa (sg:Bool)(n:Nat)(a b:Int):Int:=jH n (mQ sg n a*mQ sg n b)
def oh (sg:Bool)(n:Nat)(a b:Int):Int:=jH n (mQ sg n a*mQ sg n b/2^(8*n))
def mulMo (sg:Bool)(n:Nat)(a b:Int):Bool:=if sg=true then sx (8*n-1) (oh sg n a b) != dh .i64 (sx (8*n-1) (xa sg n a b)) 63 else oh sg n a b != 0
def vd (op:Int)(n:Nat)(a b f:Int):Int×Int×Int:=
 (xa (decide (op≠13)) n a b,oh (decide (op≠13)) n a b,ior .i64 (ec .i64 f 196) (if mulMo (decide (op≠13)) n a b=true then 2049 else 0))
theorem fZ (n:Nat)(z:Int):I64 (jH n z):=ax _
theorem rN (n:Nat)(hn:n≤8)(z:Int):uns (jH n z)=(z%2^(8*n)).toNat:=by
 unfold jH
 rw[bV]
 have hp:(0:Int)<2^(8*n):=Int.pow_pos (by decide)
 have h1:=Int.emod_nonneg z (Int.ne_of_gt hp)
 have h2:=Int.emod_lt_of_pos z hp
 have h3:(2:Int)^(8*n)≤2^64:=by
  have:=Nat.pow_le_pow_right (show 0<2 by decide) (show 8*n≤64 by omega)
  have e1:=i9 (8*n)
  rw[←e1];exact Int.ofNat_le.2 this
 unfold uns
 rw[Int.emod_eq_of_lt h1 (by omega)]
theorem sB {v z:Int}{n:Nat}(hn:cM (n:Int)=true)(hv:I64 v)(h:(uns v:Int)%2^(8*n)=z%2^(8*n)):dc v n=jH n z:=by
 refine iV (fd hv hn) (fZ ..) ?_
 rw[iW hv hn,rN _ (fi hn).2,←h]
 unfold cw
 have:((uns v:Int)%2^(8*n))=((uns v%2^(8*n):Nat):Int):=by simp
 rw[this];omega
theorem um (a b:Int):((uns (bq .i64 a b):Nat):Int)=a*b%18446744073709551616:=by
 unfold bq
 rw[bV,bf];rfl
theorem dvd64 {n:Nat}(hn:n≤8):((2:Int)^(8*n))∣18446744073709551616:=⟨2^(64-8*n),by rw[←Int.pow_add,show 8*n+(64-8*n)=64 by omega];rfl⟩
theorem fac_mod (sg:Bool){n:Nat}(hn:cM (n:Int)=true)(a:Int):mQ sg n a%2^(8*n)=(uns a:Int)%2^(8*n):=by
 have h8:=(fi hn).2
 unfold mQ
 cases sg with
 |false=>
  rw[if_neg (by decide)]
  unfold cw
  rw[Int.natCast_emod,i9,Int.emod_emod]
 |true=>
  rw[if_pos rfl]
  unfold sx
  rw[show 8*n-1+1=8*n by have:=(fi hn).1;omega,bf,Int.emod_emod_of_dvd a (by have:=dvd64 h8;exact this)]
  split
  ·rw[Int.sub_emod_right,Int.emod_emod]
  ·rw[Int.emod_emod]
theorem fac_bd (sg:Bool){n:Nat}(hn:cM (n:Int)=true)(a:Int): -(2:Int)^(8*n-1)≤mQ sg n a∧mQ sg n a<2^(8*n)∧(sg=true→mQ sg n a<2^(8*n-1))∧(sg=false→0≤mQ sg n a):=by
 have h1:=(fi hn).1
 have hp:(0:Int)<2^(8*n-1):=Int.pow_pos (by decide)
 have hd:(2:Int)^(8*n)=2^(8*n-1)*2:=by rw[←Int.pow_succ,show(8*n-1).succ=8*n by omega]
 unfold mQ
 cases sg with
 |false=>
  rw[if_neg (by decide)]
  have:=gJ a n
  have h2:(cw a n:Int)<2^(8*n):=by rw[←i9];exact Int.ofNat_lt.2 this
  exact⟨by omega,h2,fun h=>(by cases h),fun _=>by omega⟩
 |true=>
  rw[if_pos rfl]
  have:=sx_bdA (8*n-1) (by have:=(fi hn).2;omega) a
  exact⟨this.1,by omega,fun _=>this.2,fun h=>(by cases h)⟩
theorem qi {a b:Int}(ha:I64 a)(hb:I64 b):cT ((a,b,()),())=some (jH 8 (a*b/18446744073709551616),()):=by
 unfold cT
 rw[oo,af]
 dsimp only
 have ua:=bf a
 have ub:=bf b
 unfold I64 at ha hb
 have hua:(uns a:Int)=a+(if a<0 then 18446744073709551616 else 0):=by split<;>omega
 have hub:(uns b:Int)=b+(if b<0 then 18446744073709551616 else 0):=by split<;>omega
 have hhi:((uns a*uns b/18446744073709551616:Nat):Int)=(uns a:Int)*(uns b:Int)/18446744073709551616:=by simp
 have hdiv:(uns a:Int)*(uns b:Int)/18446744073709551616=a*b/18446744073709551616+(if b<0 then a else 0)+(if a<0 then b else 0)+(if a<0 then if b<0 then 18446744073709551616 else 0 else 0):=by
  rw[hua,hub]
  by_cases h1:a<0<;>by_cases h2:b<0
  ·simp only[if_pos h1,if_pos h2]
   have e:(a+18446744073709551616)*(b+18446744073709551616)=a*b+18446744073709551616*(a+b+18446744073709551616):=by grind
   rw[e,Int.add_mul_ediv_left _ _ (by decide)];omega
  ·simp only[if_pos h1,if_neg h2]
   have e:(a+18446744073709551616)*(b+0)=a*b+18446744073709551616*b:=by grind
   rw[e,Int.add_mul_ediv_left _ _ (by decide)];omega
  ·simp only[if_neg h1,if_pos h2]
   have e:(a+0)*(b+18446744073709551616)=a*b+18446744073709551616*a:=by grind
   rw[e,Int.add_mul_ediv_left _ _ (by decide)];omega
  ·simp only[if_neg h1,if_neg h2]
   rw[Int.add_zero,Int.add_zero];omega
 have hw:∀x y:Int,x%18446744073709551616=y%18446744073709551616→IntKind.wrap .i64 x=IntKind.wrap .i64 y:=fun x y h=>by
  simp only[IntKind.wrap,IntKind.bits,show(2:Int)^64=18446744073709551616 from rfl,h]
 have hwm:∀x:Int,IntKind.wrap .i64 x%18446744073709551616=x%18446744073709551616:=fun x=>by
  have:=bV x
  have h1:=bf (IntKind.wrap .i64 x)
  have h2:=bf x
  rw[this]at h1
  rw[show(2:Int)^64=18446744073709551616 from rfl]at h1 h2
  omega
 obtain⟨H,hH⟩:∃H:Int,H=kk (uns a*uns b/18446744073709551616) 8:=⟨_,rfl⟩
 have hHm:H%18446744073709551616=((uns a:Int)*(uns b:Int)/18446744073709551616)%18446744073709551616:=by
  rw[hH,←hhi]
  unfold kk
  rw[hwm]
  show((uns a*uns b/18446744073709551616%18446744073709551616:Nat):Int)%18446744073709551616=_
  omega
 rw[←hH]
 have hfin:∀z:Int,z%18446744073709551616=(a*b/18446744073709551616)%18446744073709551616→I64 z→z=jH 8 (a*b/18446744073709551616):=fun z hz hzI=>by
  unfold jH
  rw[←db hzI]
  refine hw _ _ ?_
  rw[hz]
  show _=(a*b/18446744073709551616)%18446744073709551616%18446744073709551616
  omega
 rw[hdiv]at hHm
 have hHI:I64 H:=by rw[hH];exact iM _ _
 by_cases h1:a<0
 ·rw[ag (nX h1),af,aE]
  dsimp only
  by_cases h2:b<0
  ·rw[ag (nX h2)]
   rw[if_pos h2,if_pos h1,if_pos h1,if_pos h2]at hHm
   rw[hfin (aT .i64 (aT .i64 H b) a) (by unfold aT;rw[hwm,Int.sub_emod,hwm];omega) (ax _)]
  ·rw[aB (nW h2)]
   rw[if_neg h2,if_pos h1,if_pos h1,if_neg h2]at hHm
   rw[hfin (aT .i64 H b) (by unfold aT;rw[hwm];omega) (ax _)]
 ·rw[aB (nW h1),af,aE]
  dsimp only
  by_cases h2:b<0
  ·rw[ag (nX h2)]
   rw[if_pos h2,if_neg h1,if_neg h1]at hHm
   rw[hfin (aT .i64 H a) (by unfold aT;rw[hwm];omega) (ax _)]
  ·rw[aB (nW h2)]
   rw[if_neg h2,if_neg h1,if_neg h1]at hHm
   rw[hfin H (by omega) hHI]
theorem neI (a b:Int):aX (eqI a b)=(a != b):=by
 unfold eqI
 by_cases h:a=b
 ·rw[decide_eq_true h,h];simp[aX]
 ·rw[decide_eq_false h,dO];exact(bne_iff_ne.2 h).symm
theorem sx63 {v:Int}(hv:I64 v):sx 63 v=v:=by
 unfold I64 at hv
 unfold sx
 rw[show(2:Int)^(63+1)=18446744073709551616 from rfl,show(2:Int)^63=9223372036854775808 from rfl]
 split<;>omega
def v7 (sg:Bool)(n:Nat)(a:Int):Int:=if sg=true then sx (8*n-1) a else dc a n
theorem sh {sg:Bool}{n:Nat}(hn:cM (n:Int)=true)(h8:n≠8){a:Int}(ha:I64 a):v7 sg n a=mQ sg n a:=by
 unfold v7 mQ
 cases sg with
 |true=>rfl
 |false=>
  rw[if_neg (by decide),if_neg (by decide)]
  have h1:=iW ha hn
  have h2:=fd ha hn
  have h3:=bf (dc a n)
  have h4:=gJ a n
  have h5:(2:Nat)^(8*n)≤2^32:=Nat.pow_le_pow_right (by decide) (by rcases vH hn with h|h|h|h<;>omega)
  rw[h1]at h3
  have h6:0≤dc a n:=by
   unfold dc
   rw[if_neg h8]
   exact Int.emod_nonneg _ (Int.ne_of_gt (Int.pow_pos (by decide)))
  unfold I64 at h2
  omega
theorem qL {sg:Bool}{a:Int}(ha:I64 a):v7 sg 8 a=a:=by
 unfold v7
 cases sg with
 |true=>exact sx63 ha
 |false=>show dc a 8=a;exact if_pos rfl
theorem tE {sg:Bool}{n:Nat}(hn:cM (n:Int)=true){a:Int}(ha:I64 a):v7 sg n a%2^(8*n)=mQ sg n a%2^(8*n):=by
 by_cases h8:n=8
 ·subst h8
  rw[qL ha,fac_mod sg hn,bf]
  show _=a%2^64%2^64
  rw[Int.emod_emod]
 ·rw[sh hn h8 ha]
theorem zm (x y z w m:Int)(h1:x%m=z%m)(h2:y%m=w%m):x*y%m=z*w%m:=by
 rw[Int.mul_emod,h1,h2,←Int.mul_emod]
theorem lo_eq {sg:Bool}{n:Nat}(hn:cM (n:Int)=true){a b:Int}(ha:I64 a)(hb:I64 b):dc (bq .i64 (v7 sg n a) (v7 sg n b)) n=xa sg n a b:=by
 refine sB hn (ax _) ?_
 rw[um,Int.emod_emod_of_dvd _ (dvd64 (fi hn).2)]
 exact zm _ _ _ _ _ (tE hn ha) (tE hn hb)
theorem hi_lt {sg:Bool}{n:Nat}(hn:cM (n:Int)=true)(h8:n≠8){a b:Int}(ha:I64 a)(hb:I64 b):
  dc (aH .i64 (dh .u64 (aH .u64 (bq .i64 (v7 sg n a) (v7 sg n b))) (8*(n:Int)))) n=oh sg n a b:=by
 have hn4:n=1∨n=2∨n=4:=by rcases vH hn with h|h|h|h<;>omega
 refine sB hn (ax _) ?_
 have e8:8*(n:Int)=((8*n:Nat):Int):=by omega
 rw[fY,e8,uf _ _ (by omega)]
 unfold aH
 rw[bV,bf,um,sh hn h8 ha,sh hn h8 hb]
 generalize mQ sg n a*mQ sg n b=p
 rw[show(2:Int)^64=18446744073709551616 from rfl]
 rcases hn4 with rfl|rfl|rfl
 ·rw[show(2:Int)^(8*1)=256 from rfl];omega
 ·rw[show(2:Int)^(8*2)=65536 from rfl];omega
 ·rw[show(2:Int)^(8*4)=4294967296 from rfl];omega
theorem hi_8 {a b:Int}:kk (uns a*uns b/18446744073709551616) 8=oh false 8 a b:=by
 unfold oh mQ
 rw[if_neg (by decide),if_neg (by decide)]
 unfold jH kk
 congr 1
 unfold cw
 rw[show(2:Nat)^(8*8)=18446744073709551616 from rfl,show(2:Int)^(8*8)=18446744073709551616 from rfl,Nat.mod_eq_of_lt (fj a),Nat.mod_eq_of_lt (fj b)]
 have e:((uns a:Nat):Int)*((uns b:Nat):Int)=((uns a*uns b:Nat):Int):=by simp
 rw[e]
 generalize uns a*uns b=p
 omega
theorem hi_8s {a b:Int}(ha:I64 a)(hb:I64 b):jH 8 (a*b/18446744073709551616)=oh true 8 a b:=by
 unfold oh mQ
 rw[if_pos rfl,if_pos rfl,sx63 ha,sx63 hb]
 rfl
theorem nn {op a b f:Int}{n:Nat}(hn:cM (n:Int)=true)(ha:I64 a)(hb:I64 b)(hI:I64 f)(hf:bh f=true):
  cn ((op,(n:Int),a,b,f,()),())=some (((vd op n a b f).1,(vd op n a b f).2.1,(vd op n a b f).2.2,()),()):=by
 obtain⟨h1,h8⟩:=fi hn
 unfold cn
 dsimp only
 have e8:(8*(n:Int)-1).toNat=8*n-1:=by omega
 have hsx:∀v,ba ((v,(n:Int),()),())=some (sx (8*n-1) v,()):=fun v=>by rw[kB _ _ (by omega) (by omega),e8]
 rw[hsx,hsx,af,af]
 obtain⟨sg,hsg⟩:∃sg:Bool,sg=decide (op≠13):=⟨_,rfl⟩
 refine(Ret.bnd (Q:=fun y=>y=Sum.inl (((n:Int),f,!sg,v7 sg n a,v7 sg n b,()),())) ?_ ?_).eq
 ·by_cases h:op=13
  ·have:sg=false:=by rw[hsg];simp[h]
   subst this
   rw[bU h,bn,bg _ n hn,bg _ n hn,af,af]
   exact Ret.some rfl
  ·have:sg=true:=by rw[hsg];simp[h]
   subst this
   rw[aP h,aL]
   exact Ret.some rfl
 rintro _ rfl
 rw[aE]
 dsimp only
 rw[bg _ n hn,lo_eq hn ha hb,af]
 refine Ret.bnd (Q:=fun y=>y=Sum.inl (((n:Int),f,!sg,xa sg n a b,oh sg n a b,()),())) ?_ ?_
 ·by_cases h:n=8
  ·subst h
   rw[aB (nW (by omega))]
   cases sg with
   |false=>
    rw[show(!false)=true from rfl,bn,qL ha,qL hb,oo,af,af,aE]
    dsimp only
    rw[hi_8]
    exact Ret.some rfl
   |true=>
    rw[show(!true)=false from rfl,aL,qL ha,qL hb,qi ha hb,af,af,aE]
    dsimp only
    rw[hi_8s ha hb]
    exact Ret.some rfl
  ·rw[ag (nX (by omega)),cx (a:=8) (by omega) (by omega),ag (fT (by omega)),bg _ n hn,hi_lt hn h ha hb,af]
   exact Ret.some rfl
 rintro _ rfl
 rw[aE]
 dsimp only
 refine Ret.bnd (Q:=fun y=>y=Sum.inl ((f,xa sg n a b,oh sg n a b,mulMo sg n a b,()),())) ?_ ?_
 ·unfold mulMo
  cases sg with
  |false=>
   rw[show aX (!false)=false from rfl,aL,neI]
   exact Ret.some rfl
  |true=>
   rw[show aX (!true)=true from rfl,bn,hsx,hsx,af,af]
   dsimp only
   rw[neI]
   exact Ret.some rfl
 rintro _ rfl
 rw[aE]
 dsimp only
 rw[eG,af,wg hI hf]
 unfold vd
 rw[←hsg]
 exact Ret.some rfl
theorem zl:∀u:Nat,u<2246→(u&&& 2245 != u||(bh (ior .i64 (ec .i64 (u:Int) 196) 0)&&bh (ior .i64 (ec .i64 (u:Int) 196) 2049)))=true:=by decide +kernel
theorem xb {op a b f:Int}{n:Nat}(hI:I64 f)(hf:bh f=true):I64 (vd op n a b f).1∧I64 (vd op n a b f).2.1∧bh (vd op n a b f).2.2=true∧I64 (vd op n a b f).2.2:=by
 refine⟨fZ ..,fZ ..,?_,jb ..⟩
 obtain⟨u,hu,rfl,hm⟩:=tF hI hf
 have:=zl u hu
 rw[hm]at this
 simp only[bne_self_eq_false,Bool.false_or,Bool.and_eq_true]at this
 unfold vd
 dsimp only
 split
 ·exact this.2
 ·exact this.1
def mj (f b:Int):Bool:= !eqI (ec .i64 f b) 0
def iZ (c f:Int):Bool:=(([mj f 2048,mj f 1,mj f 64,mj f 1||mj f 64,mj f 128,mj f 4,mj f 128 != mj f 2048,mj f 64||(mj f 128 != mj f 2048)]:List Bool).getD (c/2).toNat false)==decide (c%2=0)
theorem pD {c f:Int}(h0:0≤c)(h1:c≤15):S_impl_holds ((c,f,()),())=some (iZ c f,()):=by
 have hs:∀b,bk ((b,()),((f,()),()))=some (mj f b,((f,()),())):=fun b=>rfl
 unfold S_impl_holds
 dsimp only
 simp only[hs]
 have o1:br (mj f 1) (some true) (bnd (some (mj f 64,((f,()),()))) fun x8=>some x8.1)=some (mj f 1||mj f 64):=by cases mj f 1<;>rfl
 have o2:br (mj f 64) (some true) (some (aX (eqB (mj f 128) (mj f 2048))))=some (mj f 64||(mj f 128 != mj f 2048)):=by rw[neB];cases mj f 64<;>rfl
 rw[af,af,af,af,af,af]
 dsimp only
 rw[o1,af,af,af,af]
 dsimp only
 rw[o2,af,mB h0 (by decide) (by omega),ag (cj (by omega) (by omega)),dZ h0,neB]
 rfl
def lenB (u:Nat):Bool:=match bx (((u:Int),()),())with
 |some x=>decide (1≤x.1∧x.1≤8∧2^(x.1.toNat-1)≤u∧u<2^x.1.toNat)
 |none=>false
theorem za:∀u:Nat,u<256→1≤u→lenB u=true:=by decide +kernel
theorem len8_ex {u:Nat}(h:u<256)(h1:1≤u):∃l:Nat,bx (((u:Int),()),())=some ((l:Int),())∧1≤l∧l≤8∧2^(l-1)≤u∧u<2^l:=by
 have:=za u h h1
 unfold lenB at this
 cases hx:bx (((u:Int),()),())with
 |none=>rw[hx]at this;cases this
 |some x=>
  rw[hx]at this
  have:=of_decide_eq_true this
  obtain⟨n,hn⟩:=Int.eq_ofNat_of_zero_le (show 0≤x.1 by omega)
  rw[hn]at this
  refine⟨n,?_,by omega,by omega,this.2.2.1,this.2.2.2⟩
  rw[←hn]
theorem xm {a b u:Nat}(h:2^(a-1)≤u/2^b)(h2:u/2^b<2^a)(ha:1≤a):2^(a+b-1)≤u∧u<2^(a+b):=by
 have hp:0<2^b:=Nat.two_pow_pos b
 rw[Nat.le_div_iff_mul_le hp,←Nat.pow_add]at h
 rw[Nat.div_lt_iff_lt_mul hp,←Nat.pow_add]at h2
 rw[show a+b-1=a-1+b by omega]
 exact⟨h,h2⟩
theorem shrN (x k:Nat)(hk:k≤64):dh .u64 (x:Int) (k:Int)=((x/2^k:Nat):Int):=by
 rw[uf _ _ hk,Int.natCast_ediv,i9]
theorem len_fin (T:List UInt8)(i:Int){k l:Nat}(hk:k≤56)(h:some (aF .i64 0 (aH .i64 (fR T i)),())=some ((l:Int),())):some (aF .i64 (k:Int) (aH .i64 (fR T i)),())=some (((l+k:Nat):Int),()):=by
 have hb:0≤fR T i∧fR T i<256:=by
  unfold fR
  have:=(T.getD i.toNat 0).toNat_lt
  omega
 generalize fR T i=w at hb h⊢
 rw[lh (by omega) (by omega),bS (by omega) (by omega)]at h⊢
 injection h with h
 injection h with h _
 rw[show(k:Int)+w=((l+k:Nat):Int)by omega]
theorem ye {x:Nat}(h1:1≤x)(hx:x<18446744073709551616):∃l:Nat,bx (((x:Int),()),())=some ((l:Int),())∧1≤l∧l≤64∧2^(l-1)≤x∧x<2^l:=by
 have s32:∀z:Nat,dh .u64 (z:Int) 32=((z/4294967296:Nat):Int):=fun z=>shrN z 32 (by decide)
 have s16:∀z:Nat,dh .u64 (z:Int) 16=((z/65536:Nat):Int):=fun z=>shrN z 16 (by decide)
 have s8:∀z:Nat,dh .u64 (z:Int) 8=((z/256:Nat):Int):=fun z=>shrN z 8 (by decide)
 unfold bx
 dsimp only
 obtain⟨x1,k1,e1,a1,a2,a3⟩:∃x1 k1:Nat,(br (leI 4294967296 (x:Int)) (some (Sum.inl ((dh .u64 (x:Int) 32,(32:Int),()),()):Sum ((Int×Int×Unit)×Unit) (Int×Unit))) (some (Sum.inl (((x:Int),(0:Int),()),()))))=some (Sum.inl (((x1:Int),(k1:Int),()),()))∧1≤x1∧x1<4294967296∧(k1≤32∧x1=x/2^k1):=by
  by_cases h:4294967296≤x
  ·exact⟨x/4294967296,32,by rw[ag (fT (by omega)),s32];rfl,by omega,by omega,by omega,rfl⟩
  ·exact⟨x,0,by rw[aB (jP (by omega))];rfl,h1,by omega,by omega,by simp⟩
 rw[e1,af,aE]
 dsimp only
 obtain⟨x2,k2,e2,b1,b2,b3⟩:∃x2 k2:Nat,(br (leI 65536 (x1:Int)) (some (Sum.inl ((dh .u64 (x1:Int) 16,aF .i64 (k1:Int) 16,()),()):Sum ((Int×Int×Unit)×Unit) (Int×Unit))) (some (Sum.inl (((x1:Int),(k1:Int),()),()))))=some (Sum.inl (((x2:Int),(k2:Int),()),()))∧1≤x2∧x2<65536∧(k2≤48∧x2=x/2^k2):=by
  by_cases h:65536≤x1
  ·refine⟨x1/65536,k1+16,by rw[ag (fT (by omega)),s16,bS (by omega) (by omega)];rfl,by omega,by omega,by omega,?_⟩
   rw[a3.2,Nat.pow_add,Nat.div_div_eq_div_mul]
  ·exact⟨x1,k1,by rw[aB (jP (by omega))],a1,by omega,by omega,a3.2⟩
 rw[e2,af,aE]
 dsimp only
 obtain⟨x3,k3,e3,d1,d2,d3⟩:∃x3 k3:Nat,(br (leI 256 (x2:Int)) (some (Sum.inl ((dh .u64 (x2:Int) 8,aF .i64 (k2:Int) 8,()),()):Sum ((Int×Int×Unit)×Unit) (Int×Unit))) (some (Sum.inl (((x2:Int),(k2:Int),()),()))))=some (Sum.inl (((x3:Int),(k3:Int),()),()))∧1≤x3∧x3<256∧(k3≤56∧x3=x/2^k3):=by
  by_cases h:256≤x2
  ·refine⟨x2/256,k2+8,by rw[ag (fT (by omega)),s8,bS (by omega) (by omega)];rfl,by omega,by omega,by omega,?_⟩
   rw[b3.2,Nat.pow_add,Nat.div_div_eq_div_mul]
  ·exact⟨x2,k2,by rw[aB (jP (by omega))],b1,by omega,by omega,b3.2⟩
 rw[e3,af,aE]
 dsimp only
 obtain⟨l,hl,l1,l8,g1,g2⟩:=len8_ex d2 d1
 unfold bx at hl
 dsimp only at hl
 rw[aB (jP (by omega)),af,aE]at hl
 dsimp only at hl
 rw[aB (jP (by omega)),af,aE]at hl
 dsimp only at hl
 rw[aB (jP (by omega)),af,aE]at hl
 dsimp only at hl
 have hr:inR (aH .u8 (x3:Int)) 256=true:=by rw[xS (by omega) (by omega)];exact cj (by omega) (by omega)
 rw[hr,bn]at hl⊢
 rw[d3.2]at g1 g2
 have:=xm g1 g2 l1
 exact⟨l+k3,len_fin _ _ d3.1 hl,by omega,by omega,this.1,this.2⟩
structure Dig (y1 y0 u d:Nat):Prop where
 b0:y0<4294967296
 b1:y1<4294967296
 n1:4294967296≤2*y1
 lt:u<y1*4294967296+y0
 bd:d<4294967296
def oD (y1 y0 u d:Nat):Nat:=(u*4294967296+d)/(y1*4294967296+y0)
section
variable {y1 y0 u d:Nat}
theorem Dig.y_pos (h:Dig y1 y0 u d):0<y1*4294967296+y0:=by have:=h.n1;omega
theorem Dig.q_lt (h:Dig y1 y0 u d):oD y1 y0 u d<4294967296:=by
 have h1:=h.lt
 have h2:=h.bd
 unfold oD
 obtain⟨y,hy⟩:∃y,y=y1*4294967296+y0:=⟨_,rfl⟩
 rw[←hy]at h1⊢
 exact Nat.div_lt_of_lt_mul (by omega)
theorem Dig.test (h:Dig y1 y0 u d){q r:Nat}(e:q*y1+r=u):q≤oD y1 y0 u d↔¬4294967296*r+d<q*y0:=by
 unfold oD
 rw[Nat.le_div_iff_mul_le h.y_pos,←e]
 have e1:q*(y1*4294967296+y0)=q*y1*4294967296+q*y0:=by rw[Nat.mul_add,Nat.mul_assoc]
 rw[e1]
 generalize q*y1=a
 generalize q*y0=b
 omega
theorem Dig.init (h:Dig y1 y0 u d):oD y1 y0 u d≤u/y1∧u/y1≤4294967297∧u%y1<4294967296:=by
 have hy1:0<y1:=by have:=h.n1;omega
 refine⟨?_,?_,?_⟩
 ·rw[Nat.le_div_iff_mul_le hy1]
  have h1:oD y1 y0 u d*(y1*4294967296+y0)≤u*4294967296+d:=Nat.div_mul_le_self _ _
  have e1:oD y1 y0 u d*(y1*4294967296+y0)=oD y1 y0 u d*y1*4294967296+oD y1 y0 u d*y0:=by rw[Nat.mul_add,Nat.mul_assoc]
  rw[e1]at h1
  have:=h.bd
  generalize oD y1 y0 u d*y1=a at*
  generalize oD y1 y0 u d*y0=b at*
  omega
 ·have:u/y1<4294967298:=by
   have:=h.lt
   have:=h.b0
   have:=h.n1
   refine Nat.div_lt_of_lt_mul ?_
   have e:y1*4294967298=y1*4294967296+y1*2:=by rw[←Nat.mul_add]
   rw[e];omega
  omega
 ·have:=Nat.mod_lt u hy1
  have:=h.b1
  omega
theorem Dig.stop (h:Dig y1 y0 u d){q r:Nat}(e:q*y1+r=u)(hq:oD y1 y0 u d≤q)(h1:q≤4294967296)(hr:4294967296≤r):q=oD y1 y0 u d:=by
 refine Nat.le_antisymm ((h.test e).2 ?_) hq
 have:q*y0≤4294967296*4294967295:=Nat.mul_le_mul h1 (by have:=h.b0;omega)
 omega
theorem Dig.rest (h:Dig y1 y0 u d):(u*4294967296+d)=oD y1 y0 u d*(y1*4294967296+y0)+(u*4294967296+d)%(y1*4294967296+y0)∧(u*4294967296+d)%(y1*4294967296+y0)<y1*4294967296+y0:=by
 refine⟨?_,Nat.mod_lt _ h.y_pos⟩
 unfold oD
 exact(Nat.div_add_mod' _ _).symm
end
theorem addN {a b:Nat}(h:a+b<18446744073709551616):aF .u64 (a:Int) (b:Int)=((a+b:Nat):Int):=by rw[addU];omega
theorem xX {a b:Nat}(h:a*b<18446744073709551616):bq .u64 (a:Int) (b:Int)=((a*b:Nat):Int):=by
 rw[mulU]
 have e:(a:Int)*(b:Int)=((a*b:Nat):Int):=by simp
 rw[e];generalize a*b=p at *;omega
theorem subN {a b:Nat}(h:b≤a)(ha:a<18446744073709551616):aT .u64 (a:Int) (b:Int)=((a-b:Nat):Int):=by rw[subU];omega
theorem quoN {a b:Nat}(ha:a<18446744073709551616):nE .u64 (a:Int) (b:Int)=((a/b:Nat):Int):=by
 unfold nE
 rw[Int.tdiv_eq_ediv_of_nonneg (by omega),←Int.natCast_ediv,iB]
 have:=Nat.div_le_self a b
 generalize a/b=q at*
 omega
theorem remN {a b:Nat}:gZ (a:Int) (b:Int)=((a%b:Nat):Int):=by
 unfold gZ
 rw[Int.tmod_eq_emod_of_nonneg (by omega),Int.natCast_emod]
theorem restN {a c p r:Nat}(h:a*4294967296+c=p+r)(hr:r<18446744073709551616):aT .u64 (aF .u64 (bq .u64 (a:Int) 4294967296) (c:Int)) (IntKind.wrap .u64 (p:Int))=(r:Int):=by
 rw[subU,addU,mulU,iB]
 have e:(a:Int)*4294967296+c=p+r:=by omega
 omega
theorem mulW (a b:Nat):bq .u64 (a:Int) (b:Int)=IntKind.wrap .u64 ((a*b:Nat):Int):=by
 unfold bq
 simp
theorem uH {B u d1 d0 a b u2 r:Nat}(f1:u*B+d1=a+u2)(f2:u2*B+d0=b+r):u*(B*B)+(d1*B+d0)=r+(a*B+b):=by
 have e2:(u*B+d1)*B=(a+u2)*B:=by rw[f1]
 rw[Nat.add_mul,Nat.add_mul,Nat.mul_assoc]at e2
 omega
theorem vZ {u d1 d0 a b u2 r:Nat}(f1:u*4294967296+d1=a+u2)(f2:u2*4294967296+d0=b+r):u*18446744073709551616+(d1*4294967296+d0)=r+(a*4294967296+b):=uH (B:=4294967296) f1 f2
theorem vC {y1 y0 u d1 d0:Nat}(D:Dig y1 y0 u d1)(D2:Dig y1 y0 ((u*4294967296+d1)%(y1*4294967296+y0)) d0):
  (u*18446744073709551616+(d1*4294967296+d0))/(y1*4294967296+y0)=oD y1 y0 u d1*4294967296+oD y1 y0 ((u*4294967296+d1)%(y1*4294967296+y0)) d0∧
  (u*18446744073709551616+(d1*4294967296+d0))%(y1*4294967296+y0)=((u*4294967296+d1)%(y1*4294967296+y0)*4294967296+d0)%(y1*4294967296+y0):=by
 obtain⟨e1,l1⟩:=D.rest
 obtain⟨e2,l2⟩:=D2.rest
 have hp:=D.y_pos
 obtain⟨u2,hu2⟩:∃u2,u2=(u*4294967296+d1)%(y1*4294967296+y0):=⟨_,rfl⟩
 rw[←hu2]at e1 e2 l1 l2⊢
 obtain⟨r,hr⟩:∃r,r=(u2*4294967296+d0)%(y1*4294967296+y0):=⟨_,rfl⟩
 rw[←hr]at e2 l2⊢
 obtain⟨Q1,hQ1⟩:∃Q,Q=oD y1 y0 u d1:=⟨_,rfl⟩
 obtain⟨Q0,hQ0⟩:∃Q,Q=oD y1 y0 u2 d0:=⟨_,rfl⟩
 rw[←hQ1]at e1⊢
 rw[←hQ0]at e2⊢
 obtain⟨y,hy⟩:∃y,y=y1*4294967296+y0:=⟨_,rfl⟩
 rw[←hy]at e1 e2 l2 hp⊢
 have e:u*18446744073709551616+(d1*4294967296+d0)=r+y*(Q1*4294967296+Q0):=by
  have a1:y*(Q1*4294967296+Q0)=Q1*y*4294967296+Q0*y:=by rw[Nat.mul_add,←Nat.mul_assoc,Nat.mul_comm y Q1,Nat.mul_comm y Q0]
  obtain⟨a,ha⟩:∃a,a=Q1*y:=⟨_,rfl⟩
  obtain⟨b,hb⟩:∃b,b=Q0*y:=⟨_,rfl⟩
  have f1:u*4294967296+d1=a+u2:=by rw[ha];exact e1
  have f2:u2*4294967296+d0=b+r:=by rw[hb];exact e2
  have f3:y*(Q1*4294967296+Q0)=a*4294967296+b:=by rw[ha,hb];exact a1
  rw[f3]
  exact vZ f1 f2
 rw[e]
 constructor
 ·rw[Nat.add_mul_div_left _ _ hp,Nat.div_eq_of_lt l2];omega
 ·rw[Nat.add_mul_mod_self_left,Nat.mod_eq_of_lt l2]
structure DigF (y y1 y0 u d Q r:Nat):Prop where
 b0:y0<4294967296
 b1:y1<4294967296
 p1:0<y1
 ql:Q<4294967296
 t:∀q r,q*y1+r=u→(q≤Q↔¬4294967296*r+d<q*y0)
 st:∀q r,q*y1+r=u→Q≤q→q≤4294967296→4294967296≤r→q=Q
 i:Q≤u/y1∧u/y1≤4294967297∧u%y1<4294967296
 rr:u*4294967296+d=Q*y+r
 rl:r<18446744073709551616
 ul:u<18446744073709551616
 bd:d<4294967296
theorem Dig.f {y1 y0 u d y:Nat}(h:Dig y1 y0 u d)(hy:y=y1*4294967296+y0):DigF y y1 y0 u d (oD y1 y0 u d) ((u*4294967296+d)%(y1*4294967296+y0)):=by
 have hW:y1*4294967296+y0<18446744073709551616:=by have:=h.b1;have:=h.b0;omega
 refine⟨h.b0,h.b1,by have:=h.n1;omega,h.q_lt,fun q r e=>h.test e,fun q r e a b c=>h.stop e a b c,h.init,?_,Nat.lt_trans h.rest.2 hW,Nat.lt_trans h.lt hW,h.bd⟩
 rw[hy];exact h.rest.1
theorem yx {G:Option ((Int×Int×Unit)×Unit)}{y y1 y0 u d1 d0 s Q1 Q0 u2 r2:Nat}(D:DigF y y1 y0 u d1 Q1 u2)(D2:DigF y y1 y0 u2 d0 Q0 r2)(hs:s≤63){A B:Nat}
  (hA:Q1*4294967296+Q0=A) (hB:r2/2^s=B)
  (hG:G=iter F (fun(x7:((Int×Int×Int×Int×Int×Int×Int×Int×Int×Unit)×Unit)→(Option ((Int×Int×Unit)×Unit)))=>(fun(x8:((Int×Int×Int×Int×Int×Int×Int×Int×Int×Unit)×Unit))=>(bnd (br (leI 4294967296 (p7 x8.1)) (some true) (some (ltI (aF .u64 (bq .u64 4294967296 (p8 x8.1)) (p5 x8.1)) (bq .u64 (p7 x8.1) x8.1.2.2.2.1)))) (fun(x9:Bool)=>(br x9 (br (leI 4294967296 (aF .u64 (p8 x8.1) x8.1.2.2.1)) (br (aX (eqI x8.1.2.2.1 0)) (iter F (fun(x10:((Int×Int×Int×Int×Int×Int×Int×Int×Int×Unit)×Unit)→(Option ((Int×Int×Unit)×Unit)))=>(fun(x11:((Int×Int×Int×Int×Int×Int×Int×Int×Int×Unit)×Unit))=>(bnd (br (leI 4294967296 (p8 x11.1)) (some true) (some (ltI (aF .u64 (bq .u64 4294967296 (p6 x11.1)) x11.1.2.2.2.2.1) (bq .u64 (p8 x11.1) x11.1.2.2.2.1)))) (fun(x12:Bool)=>(br x12 (br (leI 4294967296 (aF .u64 (p6 x11.1) x11.1.2.2.1)) (br (leI 0 x11.1.2.1) (some (((aF .u64 (bq .u64 (p5 x11.1) 4294967296) (aT .u64 (p8 x11.1) 1)),((dh .u64 (aT .u64 (aF .u64 (bq .u64 (p7 x11.1) 4294967296) x11.1.2.2.2.2.1) (bq .u64 (aT .u64 (p8 x11.1) 1) x11.1.1)) x11.1.2.1),())),())) none) (x10 ((cp6 x11.1 ((aF .u64 (p6 x11.1) x11.1.2.2.1),((p7 x11.1),((aT .u64 (p8 x11.1) 1),())))),()))) (br (leI 0 x11.1.2.1) (some (((aF .u64 (bq .u64 (p5 x11.1) 4294967296) (p8 x11.1)),((dh .u64 (aT .u64 (aF .u64 (bq .u64 (p7 x11.1) 4294967296) x11.1.2.2.2.2.1) (bq .u64 (p8 x11.1) x11.1.1)) x11.1.2.1),())),())) none)))))) ((x8.1.1,(x8.1.2.1,(x8.1.2.2.1,(x8.1.2.2.2.1,((p6 x8.1),((aT .u64 (p7 x8.1) 1),((aT .u64 (aT .u64 (aF .u64 (bq .u64 x8.1.2.2.2.2.1 4294967296) (p5 x8.1)) (bq .u64 (aT .u64 (p7 x8.1) 1) x8.1.1)) (bq .u64 (nE .u64 (aT .u64 (aF .u64 (bq .u64 x8.1.2.2.2.2.1 4294967296) (p5 x8.1)) (bq .u64 (aT .u64 (p7 x8.1) 1) x8.1.1)) x8.1.2.2.1) x8.1.2.2.1)),((aT .u64 (aF .u64 (bq .u64 x8.1.2.2.2.2.1 4294967296) (p5 x8.1)) (bq .u64 (aT .u64 (p7 x8.1) 1) x8.1.1)),((nE .u64 (aT .u64 (aF .u64 (bq .u64 x8.1.2.2.2.2.1 4294967296) (p5 x8.1)) (bq .u64 (aT .u64 (p7 x8.1) 1) x8.1.1)) x8.1.2.2.1),()))))))))),())) none) (x7 ((cp7 x8.1 ((aT .u64 (p7 x8.1) 1),((aF .u64 (p8 x8.1) x8.1.2.2.1),()))),()))) (br (aX (eqI x8.1.2.2.1 0)) (iter F (fun(x13:((Int×Int×Int×Int×Int×Int×Int×Int×Int×Unit)×Unit)→(Option ((Int×Int×Unit)×Unit)))=>(fun(x14:((Int×Int×Int×Int×Int×Int×Int×Int×Int×Unit)×Unit))=>(bnd (br (leI 4294967296 (p8 x14.1)) (some true) (some (ltI (aF .u64 (bq .u64 4294967296 (p6 x14.1)) x14.1.2.2.2.2.1) (bq .u64 (p8 x14.1) x14.1.2.2.2.1)))) (fun(x15:Bool)=>(br x15 (br (leI 4294967296 (aF .u64 (p6 x14.1) x14.1.2.2.1)) (br (leI 0 x14.1.2.1) (some (((aF .u64 (bq .u64 (p5 x14.1) 4294967296) (aT .u64 (p8 x14.1) 1)),((dh .u64 (aT .u64 (aF .u64 (bq .u64 (p7 x14.1) 4294967296) x14.1.2.2.2.2.1) (bq .u64 (aT .u64 (p8 x14.1) 1) x14.1.1)) x14.1.2.1),())),())) none) (x13 ((cp6 x14.1 ((aF .u64 (p6 x14.1) x14.1.2.2.1),((p7 x14.1),((aT .u64 (p8 x14.1) 1),())))),()))) (br (leI 0 x14.1.2.1) (some (((aF .u64 (bq .u64 (p5 x14.1) 4294967296) (p8 x14.1)),((dh .u64 (aT .u64 (aF .u64 (bq .u64 (p7 x14.1) 4294967296) x14.1.2.2.2.2.1) (bq .u64 (p8 x14.1) x14.1.1)) x14.1.2.1),())),())) none)))))) ((x8.1.1,(x8.1.2.1,(x8.1.2.2.1,(x8.1.2.2.2.1,((p6 x8.1),((p7 x8.1),((aT .u64 (aT .u64 (aF .u64 (bq .u64 x8.1.2.2.2.2.1 4294967296) (p5 x8.1)) (bq .u64 (p7 x8.1) x8.1.1)) (bq .u64 (nE .u64 (aT .u64 (aF .u64 (bq .u64 x8.1.2.2.2.2.1 4294967296) (p5 x8.1)) (bq .u64 (p7 x8.1) x8.1.1)) x8.1.2.2.1) x8.1.2.2.1)),((aT .u64 (aF .u64 (bq .u64 x8.1.2.2.2.2.1 4294967296) (p5 x8.1)) (bq .u64 (p7 x8.1) x8.1.1)),((nE .u64 (aT .u64 (aF .u64 (bq .u64 x8.1.2.2.2.2.1 4294967296) (p5 x8.1)) (bq .u64 (p7 x8.1) x8.1.1)) x8.1.2.2.1),()))))))))),())) none)))))) ((((y:Nat):Int),(s:Int),(y1:Int),(y0:Int),(u:Int),(d1:Int),(d0:Int),((u/y1:Nat):Int),((u%y1:Nat):Int),()),())):
  G=some ((((A:Nat):Int),((B:Nat):Int),()),()):=by
 subst hG
 have hu2:=D.rl
 have hN1:=D.rr
 have hy1:=D.p1
 have fin:Ret (some ((aF .u64 (bq .u64 (Q1:Int) 4294967296) (Q0:Int),dh .u64 (aT .u64 (aF .u64 (bq .u64 (u2:Int) 4294967296) (d0:Int)) (IntKind.wrap .u64 ((Q0*y:Nat):Int))) (s:Int),()),())) (fun y=>y=((((A:Nat):Int),((B:Nat):Int),()),())):=by
  have q1:=D.ql
  have q0:=D2.ql
  rw[restN D2.rr D2.rl,shrN _ _ (by omega),hB]
  have e1:bq .u64 (Q1:Int) 4294967296=((Q1*4294967296:Nat):Int):=xX (b:=4294967296) (by omega)
  rw[e1,addN (by omega),hA]
  exact Ret.some rfl
 refine(Ret.iter (fun x=>∃q r:Nat,q*y1+r=u∧Q1≤q∧q≤4294967297∧r<4294967296∧x=(((y:Int),(s:Int),(y1:Int),(y0:Int),(u:Int),(d1:Int),(d0:Int),(q:Int),(r:Int),()),())) (fun x=>x.1.2.2.2.2.2.2.2.1.toNat)
  ?_ F _ ⟨u/y1,u%y1,Nat.div_add_mod' _ _,D.i.1,D.i.2.1,D.i.2.2,rfl⟩ (by unfold F;dsimp only;rw[Int.toNat_natCast];have:=D.i.2.1;omega)).eq
 rintro _ rec ⟨q,r,he,hQ,hq,hr,rfl⟩ hrec
 dsimp only[p5,p6,p7,p8,cp7]at hrec⊢
 refine Ret.bnd (Q:=fun z=>(z=true∧Q1<q)∨(z=false∧q=Q1)) ?_ ?_
 ·by_cases hb:4294967296≤q
  ·rw[ag (fT (by omega))]
   exact Ret.some (.inl ⟨rfl,by have:=D.ql;omega⟩)
  ·rw[aB (jP (by omega))]
   have hm:q*y0<18446744073709551616:=Nat.lt_of_le_of_lt (Nat.mul_le_mul (show q≤4294967295 by omega) (show y0≤4294967295 by have:=D.b0;omega)) (show 4294967295*4294967295<18446744073709551616 by omega)
   have hr2:4294967296*r+d1<18446744073709551616:=by have:=D.bd;omega
   rw[show(4294967296:Int)=((4294967296:Nat):Int)from rfl,xX (a:=4294967296) (b:=r) (by omega),addN hr2,xX hm]
   have ht:=D.t _ _ he
   by_cases hx:4294967296*r+d1<q*y0
   ·rw[nX (by omega)]
    exact Ret.some (.inl ⟨rfl,by
     have:¬q≤Q1:=fun g=>ht.1 g hx
     omega⟩)
   ·rw[nW (by omega)]
    exact Ret.some (.inr ⟨rfl,by have:=ht.2 hx;omega⟩)
 intro z hz
 rcases hz with ⟨rfl,hlt⟩|⟨rfl,hqe⟩
 ·rw[bn,addN (a:=r) (b:=y1) (by have:=D.b1;omega)]
  have hq1:aT .u64 (q:Int) 1=((q-1:Nat):Int):=subN (b:=1) (by omega) (by omega)
  have he':(q-1)*y1+(r+y1)=u:=by
   obtain⟨k,rfl⟩:∃k,q=k+1:=⟨q-1,by omega⟩
   rw[Nat.add_sub_cancel,←he,Nat.add_mul];omega
  rw[hq1]
  by_cases hb:4294967296≤r+y1
  ·rw[ag (fT (by omega)),ag (show aX (eqI (y1:Int) 0)=true by rw[aP (by omega)];rfl)]
   have hst:=D.st _ _ he' (by omega) (by omega) hb
   rw[hst,mulW]
   rw[restN hN1 hu2,quoN hu2,xX (Nat.lt_of_le_of_lt (Nat.div_mul_le_self u2 y1) hu2),subN (Nat.div_mul_le_self u2 y1) hu2]
   refine Ret.iter (fun x=>∃q r:Nat,q*y1+r=u2∧Q0≤q∧q≤4294967297∧r<4294967296∧x=(((y:Int),(s:Int),(y1:Int),(y0:Int),(d0:Int),(Q1:Int),(r:Int),(u2:Int),(q:Int),()),())) (fun x=>x.1.2.2.2.2.2.2.2.2.1.toNat)
    ?_ F _ ⟨u2/y1,u2%y1,Nat.div_add_mod' _ _,D2.i.1,D2.i.2.1,D2.i.2.2,by
     have:u2-u2/y1*y1=u2%y1:=by have:=Nat.div_add_mod' u2 y1;omega
     rw[this]⟩ (by unfold F;dsimp only;rw[Int.toNat_natCast];have:=D2.i.2.1;omega)
   rintro _ rec2 ⟨q,r,he,hQ,hq,hr,rfl⟩ hrec2
   dsimp only[p5,p6,p7,p8,cp6]at hrec2⊢
   refine Ret.bnd (Q:=fun z=>(z=true∧Q0<q)∨(z=false∧q=Q0)) ?_ ?_
   ·by_cases hb:4294967296≤q
    ·rw[ag (fT (by omega))]
     exact Ret.some (.inl ⟨rfl,by have:=D2.ql;omega⟩)
    ·rw[aB (jP (by omega))]
     have hm:q*y0<18446744073709551616:=Nat.lt_of_le_of_lt (Nat.mul_le_mul (show q≤4294967295 by omega) (show y0≤4294967295 by have:=D.b0;omega)) (show 4294967295*4294967295<18446744073709551616 by omega)
     have hr2:4294967296*r+d0<18446744073709551616:=by have:=D2.bd;omega
     rw[show(4294967296:Int)=((4294967296:Nat):Int)from rfl,xX (a:=4294967296) (b:=r) (by omega),addN hr2,xX hm]
     have ht:=D2.t _ _ he
     by_cases hx:4294967296*r+d0<q*y0
     ·rw[nX (by omega)]
      exact Ret.some (.inl ⟨rfl,by
       have:¬q≤Q0:=fun g=>ht.1 g hx
       omega⟩)
     ·rw[nW (by omega)]
      exact Ret.some (.inr ⟨rfl,by have:=ht.2 hx;omega⟩)
   rintro z hz
   rcases hz with ⟨rfl,hlt⟩|⟨rfl,rfl⟩
   ·rw[bn,addN (a:=r) (b:=y1) (by have:=D.b1;omega)]
    have hq1:aT .u64 (q:Int) 1=((q-1:Nat):Int):=subN (b:=1) (by omega) (by omega)
    have he':(q-1)*y1+(r+y1)=u2:=by
     obtain⟨k,rfl⟩:∃k,q=k+1:=⟨q-1,by omega⟩
     rw[Nat.add_sub_cancel,←he,Nat.add_mul];omega
    rw[hq1]
    by_cases hb:4294967296≤r+y1
    ·rw[ag (fT (by omega)),ag (fT (by omega))]
     have hs:=D2.st _ _ he' (by omega) (by omega) hb
     rw[hs,mulW]
     exact fin
    ·rw[aB (jP (by omega))]
     exact hrec2 _ ⟨q-1,r+y1,he',by omega,by omega,by omega,rfl⟩ (by dsimp only;omega)
   ·rw[aL,ag (fT (by omega)),mulW]
    exact fin
  ·rw[aB (jP (by omega))]
   exact hrec _ ⟨q-1,r+y1,he',by omega,by omega,by omega,rfl⟩ (by dsimp only;omega)
 ·rw[hqe,aL,ag (show aX (eqI (y1:Int) 0)=true by rw[aP (by omega)];rfl),mulW]
  rw[restN hN1 hu2,quoN hu2,xX (Nat.lt_of_le_of_lt (Nat.div_mul_le_self u2 y1) hu2),subN (Nat.div_mul_le_self u2 y1) hu2]
  refine Ret.iter (fun x=>∃q r:Nat,q*y1+r=u2∧Q0≤q∧q≤4294967297∧r<4294967296∧x=(((y:Int),(s:Int),(y1:Int),(y0:Int),(d0:Int),(Q1:Int),(r:Int),(u2:Int),(q:Int),()),())) (fun x=>x.1.2.2.2.2.2.2.2.2.1.toNat)
   ?_ F _ ⟨u2/y1,u2%y1,Nat.div_add_mod' _ _,D2.i.1,D2.i.2.1,D2.i.2.2,by
    have:u2-u2/y1*y1=u2%y1:=by have:=Nat.div_add_mod' u2 y1;omega
    rw[this]⟩ (by unfold F;dsimp only;rw[Int.toNat_natCast];have:=D2.i.2.1;omega)
  rintro _ rec2 ⟨q,r,he,hQ,hq,hr,rfl⟩ hrec2
  dsimp only[p5,p6,p7,p8,cp6]at hrec2⊢
  refine Ret.bnd (Q:=fun z=>(z=true∧Q0<q)∨(z=false∧q=Q0)) ?_ ?_
  ·by_cases hb:4294967296≤q
   ·rw[ag (fT (by omega))]
    exact Ret.some (.inl ⟨rfl,by have:=D2.ql;omega⟩)
   ·rw[aB (jP (by omega))]
    have hm:q*y0<18446744073709551616:=Nat.lt_of_le_of_lt (Nat.mul_le_mul (show q≤4294967295 by omega) (show y0≤4294967295 by have:=D.b0;omega)) (show 4294967295*4294967295<18446744073709551616 by omega)
    have hr2:4294967296*r+d0<18446744073709551616:=by have:=D2.bd;omega
    rw[show(4294967296:Int)=((4294967296:Nat):Int)from rfl,xX (a:=4294967296) (b:=r) (by omega),addN hr2,xX hm]
    have ht:=D2.t _ _ he
    by_cases hx:4294967296*r+d0<q*y0
    ·rw[nX (by omega)]
     exact Ret.some (.inl ⟨rfl,by
      have:¬q≤Q0:=fun g=>ht.1 g hx
      omega⟩)
    ·rw[nW (by omega)]
     exact Ret.some (.inr ⟨rfl,by have:=ht.2 hx;omega⟩)
  rintro z hz
  rcases hz with ⟨rfl,hlt⟩|⟨rfl,rfl⟩
  ·rw[bn,addN (a:=r) (b:=y1) (by have:=D.b1;omega)]
   have hq1:aT .u64 (q:Int) 1=((q-1:Nat):Int):=subN (b:=1) (by omega) (by omega)
   have he':(q-1)*y1+(r+y1)=u2:=by
    obtain⟨k,rfl⟩:∃k,q=k+1:=⟨q-1,by omega⟩
    rw[Nat.add_sub_cancel,←he,Nat.add_mul];omega
   rw[hq1]
   by_cases hb:4294967296≤r+y1
   ·rw[ag (fT (by omega)),ag (fT (by omega))]
    have hs:=D2.st _ _ he' (by omega) (by omega) hb
    rw[hs,mulW]
    exact fin
   ·rw[aB (jP (by omega))]
    exact hrec2 _ ⟨q-1,r+y1,he',by omega,by omega,by omega,rfl⟩ (by dsimp only;omega)
  ·rw[aL,ag (fT (by omega)),mulW]
   exact fin
theorem zq {X y0 s:Nat}:X*2^s/(y0*2^s)=X/y0∧X*2^s%(y0*2^s)/2^s=X%y0:=by
 have hp:0<2^s:=Nat.two_pow_pos s
 constructor
 ·rw[Nat.mul_div_mul_right _ _ hp]
 ·rw[Nat.mul_mod_mul_right,Nat.mul_div_cancel _ hp]
theorem iorN {a b k:Nat}(ha:a*2^k<18446744073709551616)(hb:b<2^k)(l1:a*2^k+b<18446744073709551616):ior .u64 ((a*2^k:Nat):Int) (b:Int)=((a*2^k+b:Nat):Int):=by
 have e:a*2^k|||b=a*2^k+b:=by rw[Nat.mul_comm,Nat.two_pow_add_eq_or_of_lt hb]
 unfold ior
 rw[iB]
 have:((BitVec.ofInt IntKind.u64.bits ((a*2^k:Nat):Int)|||BitVec.ofInt IntKind.u64.bits (b:Int)).toNat)=(a*2^k)%18446744073709551616|||b%18446744073709551616:=by
  rw[BitVec.toNat_or]
  show(BitVec.ofInt 64 ((a*2^k:Nat):Int)).toNat|||(BitVec.ofInt 64 (b:Int)).toNat=_
  rw[BitVec.toNat_ofInt,BitVec.toNat_ofInt]
  show(((a*2^k:Nat):Int)%(18446744073709551616:Nat)).toNat|||((b:Int)%(18446744073709551616:Nat)).toNat=_
  rw[←Int.natCast_emod,←Int.natCast_emod,Int.toNat_natCast,Int.toNat_natCast]
 have l2:b<18446744073709551616:=by omega
 rw[this,Nat.mod_eq_of_lt ha,Nat.mod_eq_of_lt l2,e]
 omega
theorem shlN {a s:Nat}(hs:s≤64):gP .u64 (a:Int) (s:Int)=((a*2^s%18446744073709551616:Nat):Int):=by
 rw[shlU64 _ _ hs]
 rw[←i9 s,←Int.natCast_mul]
 obtain⟨p,hp⟩:∃p,p=a*2^s:=⟨_,rfl⟩
 rw[←hp];omega
theorem shrNU {a s:Nat}(hs:s≤64):dh .u64 (a:Int) (s:Int)=((a/2^s:Nat):Int):=by
 rw[uf _ _ hs,←i9 s,Int.natCast_ediv]
theorem Ar (a:Nat):dh .u64 (a:Int) 32=((a/4294967296:Nat):Int):=shrNU (a:=a) (s:=32) (by decide)
theorem zW {a:Nat}(h:a<18446744073709551616):ec .u64 (a:Int) 4294967295=((a%4294967296:Nat):Int):=by
 rw[tn (by omega) (by omega)];omega
theorem ve {P R hi lo d B:Nat}(hR:0<R)(hP:0<P)(hW:P*R=B*B)(hd:d*P<B*B)(hn:B*B≤2*(d*P))(h:hi<d)(hlo:lo<B*B)(hB:2≤B)(hBe:B%2=0):
  lo/R<P∧hi*P<B*B∧hi*P+lo/R<d*P∧(hi*P+lo/R)*(B*B)+lo*P%(B*B)=(hi*(B*B)+lo)*P∧d*P/B<B∧B≤2*(d*P/B):=by
 have h1:lo/R<P:=Nat.div_lt_of_lt_mul (by rw[Nat.mul_comm,hW];exact hlo)
 have h2:(hi+1)*P≤d*P:=Nat.mul_le_mul_right _ h
 rw[Nat.add_mul,Nat.one_mul]at h2
 refine⟨h1,by omega,by omega,?_,Nat.div_lt_of_lt_mul hd,?_⟩
 ·have e1:lo*P=lo/R*(B*B)+lo%R*P:=by
   rw[←hW,Nat.mul_comm P R,←Nat.mul_assoc,←Nat.add_mul,Nat.div_add_mod']
  have l1:lo%R*P<B*B:=by
   rw[←hW,Nat.mul_comm P R]
   exact Nat.mul_lt_mul_of_pos_right (Nat.mod_lt _ hR) hP
  have e2:lo*P%(B*B)=lo%R*P:=by
   rw[e1,Nat.mul_comm (lo/R),Nat.mul_add_mod,Nat.mod_eq_of_lt l1]
  rw[e2,Nat.add_mul,Nat.add_mul,e1,Nat.mul_right_comm hi P]
  omega
 ·obtain⟨c,hc⟩:∃c,B=2*c:=⟨B/2,by omega⟩
  have:c≤d*P/B:=by
   rw[Nat.le_div_iff_mul_le (by omega)]
   have:B*B=2*(c*B):=by rw[←Nat.mul_assoc,←hc]
   omega
  omega
theorem yc {hi lo d:Nat}(h:hi<d)(hd:d<18446744073709551616)(hlo:lo<18446744073709551616):
  cU (((hi:Int),(lo:Int),(d:Int),()),())=some (((((hi*18446744073709551616+lo)/d:Nat):Int),(((hi*18446744073709551616+lo)%d:Nat):Int),()),()):=by
 unfold cU
 dsimp only
 rw[aP (show(d:Int)≠0 by omega),aL,af,aE]
 dsimp only
 rw[jP (show ¬(d:Int)≤hi by omega),aL,af,aE]
 dsimp only
 by_cases h0:hi=0
 ·subst h0
  rw[show eqI ((0:Nat):Int) 0=true from rfl,bn,aP (show(d:Int)≠0 by omega),dO,bn,bn,quoN hlo,remN]
  rw[Nat.zero_mul,Nat.zero_add]
 ·rw[aP (show(hi:Int)≠0 by omega),aL]
  obtain⟨l,hl,l1,l64,b1,b2⟩:=ye (show 1≤d by omega) hd
  have hlz:bz (((d:Int),()),())=some (((64-l:Nat):Int),()):=by
   unfold bz
   rw[hl,af]
   dsimp only
   rw[gb (by omega) (by omega)]
   rw[show(64:Int)-l=((64-l:Nat):Int)by omega]
  rw[hlz,af]
  dsimp only
  obtain⟨s,hs⟩:∃s,s=64-l:=⟨_,rfl⟩
  rw[←hs]
  have hs63:s≤63:=by omega
  have hws:aH .u64 (s:Int)=(s:Int):=iA (by omega) (by omega)
  rw[hws,ag (fT (by omega)),ag (fT (by omega))]
  have e64:aT .u64 64 (s:Int)=((64-s:Nat):Int):=subN (a:=64) (by omega) (by decide)
  rw[e64,ag (fT (by omega)),ag (fT (by omega))]
  have hPR:2^s*2^(64-s)=4294967296*4294967296:=by
   rw[←Nat.pow_add,show s+(64-s)=64 by omega]
  have hY2:d*2^s<4294967296*4294967296:=by
   have:d*2^s<2^l*2^s:=Nat.mul_lt_mul_of_pos_right b2 (Nat.two_pow_pos s)
   rw[←Nat.pow_add,show l+s=64 by omega]at this
   exact this
  have hY1:4294967296*4294967296≤2*(d*2^s):=by
   have:2^(l-1)*2^s≤d*2^s:=Nat.mul_le_mul_right _ b1
   rw[←Nat.pow_add,show l-1+s=63 by omega]at this
   have e:(4294967296*4294967296:Nat)=2*2^63:=by decide
   rw[e];exact Nat.mul_le_mul_left 2 this
  obtain⟨c1,c2,c3,c4,c5,c6⟩:=ve (Nat.two_pow_pos (64-s)) (Nat.two_pow_pos s) hPR hY2 hY1 h (B:=4294967296) (lo:=lo) hlo (by decide) (by decide)
  rw[shlN (a:=d) (by omega),shlN (a:=hi) (by omega),shlN (a:=lo) (by omega),shrNU (a:=lo) (s:=64-s) (by omega)]
  rw[Nat.mod_eq_of_lt hY2,Nat.mod_eq_of_lt c2]
  have hul:hi*2^s+lo/2^(64-s)<18446744073709551616:=Nat.lt_trans c3 hY2
  rw[iorN c2 c1 hul,Ar,Ar,zW hY2]
  have hL:lo*2^s%18446744073709551616<18446744073709551616:=Nat.mod_lt _ (by decide)
  rw[zW hL]
  obtain⟨X,hX⟩:∃X,X=hi*18446744073709551616+lo:=⟨_,rfl⟩
  have c4':(hi*2^s+lo/2^(64-s))*18446744073709551616+lo*2^s%18446744073709551616=X*2^s:=by rw[hX];exact c4
  rw[←hX]
  have nd:=zq (X:=X) (y0:=d) (s:=s)
  obtain⟨u,hu⟩:∃u,u=hi*2^s+lo/2^(64-s):=⟨_,rfl⟩
  obtain⟨y,hy⟩:∃y,y=d*2^s:=⟨_,rfl⟩
  obtain⟨L,hLe⟩:∃L,L=lo*2^s%18446744073709551616:=⟨_,rfl⟩
  rw[←hu,←hLe]at c4'
  rw[←hu,←hy]at c3
  rw[←hy]at c5 c6 nd hY2
  rw[←hu]at hul
  rw[←hLe]at hL
  rw[←hu,←hy,←hLe]
  rw[←c4']at nd
  obtain⟨y1,hy1⟩:∃v,v=y/4294967296:=⟨_,rfl⟩
  obtain⟨y0,hy0⟩:∃v,v=y%4294967296:=⟨_,rfl⟩
  obtain⟨d1,hd1⟩:∃v,v=L/4294967296:=⟨_,rfl⟩
  obtain⟨d0,hd0⟩:∃v,v=L%4294967296:=⟨_,rfl⟩
  rw[←hy1,←hy0,←hd1,←hd0]
  rw[←hy1]at c5 c6
  have hyy:y=y1*4294967296+y0:=by omega
  have hLL:L=d1*4294967296+d0:=by omega
  have D:Dig y1 y0 u d1:=⟨by omega,c5,c6,by rw[←hyy];exact c3,by omega⟩
  have D2:Dig y1 y0 ((u*4294967296+d1)%(y1*4294967296+y0)) d0:=⟨by omega,c5,c6,Nat.mod_lt _ D.y_pos,by omega⟩
  have hq:=D.f hyy
  have hq2:=D2.f hyy
  obtain⟨t1,t2⟩:=vC D D2
  rw[←hLL,←hyy]at t1 t2
  rw[←hyy]at hq hq2
  have hy1p:0<y1:=hq.p1
  have hmq:u/y1*y1<18446744073709551616:=Nat.lt_of_le_of_lt (Nat.div_mul_le_self u y1) hul
  have hrm:u-u/y1*y1=u%y1:=by have:=Nat.div_add_mod' u y1;omega
  rw[aP (show(y1:Int)≠0 by omega),dO,bn,quoN hul,xX hmq,subN (Nat.div_mul_le_self u y1) hul,hrm]
  exact yx hq hq2 hs63 (t1.symm.trans nd.1) (by rw[←t2];exact nd.2) rfl
def mL:List UInt8:=[114,109,105,48]
theorem jN:∀c∈mL,∀d∈mL,df (([c],((d.toNat:Int),())),())=some (decide (c=d),()):=by decide +kernel
def ko (k:Int)(c:UInt8):Prop:=k=1∧c=114∨k=2∧c=109∨k=3∧c=105∨k=0∧c=48
instance (k:Int) (c:UInt8):Decidable (ko k c):=by unfold ko;infer_instance
theorem oM {k r b i s d m:Int}{c:UInt8}(hc:c∈mL):dz (((k,(r,(b,(i,(s,(d,(m,()))))))),([c],())),())=some (decide (ko k c),()):=by
 unfold dz
 dsimp only
 have h1:=jN c hc 114 (by decide)
 have h2:=jN c hc 109 (by decide)
 have h3:=jN c hc 105 (by decide)
 have h4:=jN c hc 48 (by decide)
 simp only[show((114:UInt8).toNat:Int)=114 from rfl,show((109:UInt8).toNat:Int)=109 from rfl,show((105:UInt8).toNat:Int)=105 from rfl,show((48:UInt8).toNat:Int)=48 from rfl]at h1 h2 h3 h4
 simp only[h1,h2,h3,h4,af,fo,fP]
 congr 2
 rw[Bool.eq_iff_iff,decide_eq_true_eq]
 simp only[Bool.or_eq_true,Bool.and_eq_true,ca,decide_eq_true_eq]
 unfold ko
 simp only[or_assoc]
def fW (kd ks:Int)(q:List UInt8):Bool:=match q with
 |[a,b]=>decide (ko kd a)&&decide (ko ks b)
 |_=>false
def xh (ps:List (List UInt8)):Prop:=∀q∈ps,∃a∈mL,∃b∈mL,q=[a,b]
theorem wI (x:Ins)(ps:List (List UInt8))(hp:xh ps)(hl:ps.length≤100):aK ((x,(ps,())),())=some (ps.any (fW x.dst.kind x.src.kind),()):=by
 unfold aK
 dsimp only[fB,ck]
 refine(Ret.iter (fun y=>∃i:Nat,i≤ps.length∧(ps.drop i).any (fW x.dst.kind x.src.kind)=ps.any (fW x.dst.kind x.src.kind)∧y=((ps,((i:Int),())),((fB x ()),()))) (fun y=>ps.length-y.1.2.1.toNat) ?_ F _ ⟨0,by omega,rfl,rfl⟩ (by unfold F;simp;omega)).eq
 rintro _ rec ⟨i,hi,ha,rfl⟩ hrec
 dsimp only[fB,ck,cp7,d11]
 by_cases h:i<ps.length
 ·obtain⟨a,hca,b,hcb,e⟩:=hp ps[i] (List.getElem_mem h)
  have hg:aQ ps (i:Int) (aD .s)=[a,b]:=by rw[iL h,e]
  rw[ag (nX (by unfold bW;omega)),ag (by simp[inR,bW];omega),hg,ag (show inC 1 (bW [a,b])=true from rfl)]
  rw[show ja [a,b] 1=[a]from rfl,oM hca,af]
  dsimp only
  rw[List.drop_eq_getElem_cons h,e,List.any_cons]at ha
  have next:(ps.drop (i+1)).any (fW x.dst.kind x.src.kind)=ps.any (fW x.dst.kind x.src.kind)→Ret (rec ((ps,(aF .i64 (i:Int) 1,())),((fB x ()),()))) (fun z=>z=(ps.any (fW x.dst.kind x.src.kind),())):=fun h2=>by
   rw[bS (by omega) (by omega)]
   exact hrec _ ⟨i+1,by omega,h2,rfl⟩ (by simp;omega)
  by_cases h1:ko x.dst.kind a
  ·rw[decide_eq_true h1,ag rfl,ag (by simp[inR,bW];omega),ag (show inC 1 (bW [a,b])=true from rfl)]
   rw[show mi [a,b] 1=[b]from rfl,oM hcb,af]
   dsimp only
   by_cases h2:ko x.src.kind b
   ·rw[decide_eq_true h2,ag rfl]
    refine Ret.some ?_
    rw[←ha]
    simp[fW,h1,h2]
   ·rw[decide_eq_false h2,aB rfl]
    refine next ?_
    rw[←ha]
    simp[fW,h2]
  ·rw[decide_eq_false h1,aB rfl]
   refine next ?_
   rw[←ha]
   simp[fW,h1]
 ·rw[aB (nW (by unfold bW;omega))]
  refine Ret.some ?_
  rw[←ha,List.drop_of_length_le (by omega)]
  rfl
def fz (n:Nat):List Int×List UInt8:=match cH (((n:Int),()),())with
 |some x=>(x.1.1,x.1.2.1)
 |none=>([],[])
theorem qO:∀n:Nat,n<45→(cH (((n:Int),()),())).isSome=true:=by decide +kernel
theorem uL {n:Nat}(h:n<45):cH (((n:Int),()),())=some (((fz n).1,((fz n).2,())),()):=by
 have:=qO n h
 unfold fz
 cases hx:cH (((n:Int),()),())with
 |none=>rw[hx]at this;cases this
 |some x=>obtain⟨⟨a,b,_⟩,_⟩:=x;rfl
def szK (n:Nat):Nat:=if n≤16∨n=18∨n=19∨(20≤n∧n≤24)∨n=28 then 0 else if n=17∨n=25∨n=26∨n=27∨n=36∨n=39∨n=40 then 1 else if 29≤n∧n≤32 then 2 else if n=35∨n=41∨n=42 then 3 else 4
def szL (k:Nat):List Int:=if k=0 then [1,2,4,8]else if k=1 then [2,4,8]else if k=2 then [8]else if k=3 then [1]else [0]
def prK (n:Nat):List (List UInt8):=
 if n≤9 then [[114,114],[109,114],[114,109],[114,105],[109,105]]
 else if n=10∨(20≤n∧n≤24)then [[114,114],[109,114],[114,105],[109,105]]
 else if n=28 then [[114,114],[109,114]]
 else if n=11∨n=12∨n=18∨n=19∨n=30∨n=35 then [[114,48],[109,48]]
 else if 13≤n∧n≤16 then [[48,114],[48,109]]
 else if n=17∨n=36∨n=26∨n=27 then [[114,114],[114,109]]
 else if n=25 then [[114,109]]
 else if n=29∨n=31∨n=32 then [[48,114],[48,109],[48,105]]
 else if n=33∨n=44 then [[48,105]]
 else [[48,48]]
theorem yL:∀n,n<45→1≤n→(fz n).1=szL (szK n):=by decide +kernel
def wM (k:Nat):UInt8:=if k=1 then 114 else if k=2 then 109 else if k=3 then 105 else 45
theorem yK:∀n,n<45→1≤n→(fz n).2.length≤20∧∀a,a<4→∀b,b<4→hasS ([32]++(fz n).2++[32]) ([32]++[wM a,wM b]++[32])=(prK n).any (fW (a:Int) (b:Int)):=by decide +kernel
theorem An:∀n,n<45→xh (prK n):=by
 intro n _
 unfold prK
 repeat' split
 all_goals
  intro q hq
  simp only[List.mem_cons,List.not_mem_nil,or_false]at hq
  rcases hq with rfl|rfl|rfl|rfl|rfl<;>exact⟨_,by decide,_,by decide,rfl⟩
def qu (r z:Int):Prop:=0≤r∧r≤15∨z=1∧16≤r∧r≤19
def opB (k r b i s d m z:Int):Prop:=
 k=1∧b=0∧i=0∧s=0∧d=0∧m=0∧qu r z∨kF k r b i s d m∨k=3∧r=0∧b=0∧i=0∧s=0∧d=0∨k=0∧r=0∧b=0∧i=0∧s=0∧d=0∧m=0
instance (r z:Int):Decidable (qu r z):=by unfold qu;infer_instance
instance (k r b i s d m z:Int):Decidable (opB k r b i s d m z):=by unfold opB;infer_instance
theorem zy {k r b i s d m z:Int}:xY k r b i s d m z↔jz z∧opB k r b i s d m z:=by
 unfold xY opB
 constructor
 ·rintro⟨h,g⟩
  exact⟨h,g.imp (fun⟨a1,a2,a3,a4,a5,a6,a7⟩=>⟨a1,a2,a3,a4,a5,a6,(pY h).2 a7⟩) id⟩
 ·rintro⟨h,g⟩
  exact⟨h,g.imp (fun⟨a1,a2,a3,a4,a5,a6,a7⟩=>⟨a1,a2,a3,a4,a5,a6,(pY h).1 a7⟩) id⟩
theorem pJ {k r b i s d m z:Int}:ci (((k,(r,(b,(i,(s,(d,(m,()))))))),(z,())),())=some (decide (opB k r b i s d m z),()):=by
 unfold ci
 dsimp only[p5,p6]
 rw[cg,j7]
 by_cases h1:k=1
 ·subst h1
  rw[ag (bU rfl)]
  have hx:(br (eqI z 1) (some (Sum.inl ((19,()),((1,(r,(b,(i,(s,(d,(m,()))))))),())):Sum ((Int×Unit)×((Int×(Int×(Int×(Int×(Int×(Int×(Int×Unit)))))))×Unit)) (Bool×Unit))) (some (Sum.inl ((15,()),((1,(r,(b,(i,(s,(d,(m,()))))))),())))))
    =some (Sum.inl ((if z=1 then 19 else 15,()),((1,(r,(b,(i,(s,(d,(m,()))))))),()))):=by
   by_cases h:z=1
   ·rw[ag (bU h),if_pos h]
   ·rw[aB (aP h),if_neg h]
  rw[hx]
  simp only[af,aE,aR,fo]
  congr 2
  rw[Bool.eq_iff_iff,decide_eq_true_eq]
  simp only[Bool.and_eq_true,iE,ca,decide_eq_true_eq]
  unfold opB qu kF
  by_cases h:z=1
  ·rw[if_pos h];simp only[true_and];omega
  ·rw[if_neg h];simp only[true_and];omega
 ·rw[aB (aP h1)]
  by_cases h2:k=2
  ·subst h2
   rw[ag (bU rfl)]
   simp only[aR,jO,fP,fo,af,eqI,ltI,leI]
   rw[brF]
   congr 2
   have e:opB 2 r b i s d m z↔kF 2 r b i s d m:=by unfold opB;simp
   rw[Bool.eq_iff_iff,decide_eq_true_eq,e]
   unfold kF
   simp only[Bool.and_eq_true,Bool.or_eq_true,Bool.not_eq_true',Bool.or_eq_false_iff,decide_eq_true_eq,cE,iQ,decide_eq_false_iff_not]
   clear h1 e
   constructor
   ·rintro⟨⟨⟨⟨⟨⟨⟨g1,g2⟩,g3⟩,g4⟩,g5⟩,g6⟩,g7⟩,g8,g9⟩
    refine⟨trivial,g1,g2,g3.1,g3.2,g4.1,g4.2,g5,?_,?_,g7.1,g7.2⟩
    ·omega
    ·omega
   ·rintro⟨_,g1,g2,g3,g4,g5,g6,g7,g8,g9,g10,g11⟩
    refine⟨⟨⟨⟨⟨⟨⟨g1,g2⟩,⟨g3,g4⟩⟩,⟨g5,g6⟩⟩,g7⟩,?_⟩,⟨g10,g11⟩⟩,?_,?_⟩
    ·omega
    ·omega
    ·omega
  ·rw[aB (aP h2)]
   by_cases h3:k=3
   ·subst h3
    rw[ag (bU rfl)]
    congr 2
    rw[Bool.eq_iff_iff,decide_eq_true_eq]
    simp only[iE,ca]
    unfold opB kF
    simp
   ·rw[aB (aP h3)]
    congr 2
    rw[Bool.eq_iff_iff,decide_eq_true_eq]
    simp only[iE,ca]
    unfold opB kF
    simp[h1,h2,h3]
set_option maxHeartbeats 4000000
set_option linter.unusedSimpArgs false
theorem bn {α:Type}{x y:α}:br true x y=x:=rfl
def qt (v z:Int):Bool:=fitsB v (jk z 4)
theorem ni {v z:Int}(h:1≤z):bm ((v,(z,())),())=some (qt v z,()):=by
 unfold qt
 by_cases h4:z≤4
 ·rw[imin_l h4];exact lJ v z h h4
 ·rw[tK (by omega),←lJ v 4 (by decide) (by decide)]
  unfold bm
  dsimp only
  rw[tK (by omega),tK (by decide)]
section
variable (x:Ins)
theorem m5:iD (fB x ())=x:=rfl
theorem tI1:(fB x ()).1=x.op:=rfl
theorem tI2:(fB x ()).2.1=x.size:=rfl
theorem tI4:(fB x ()).2.2.2.1=x.frm:=rfl
theorem tI11:p11 (fB x ())=x.src.kind:=rfl
theorem tI12:p12 (fB x ())=x.src.reg:=rfl
theorem yz (a b:Int):eqI a b=decide (a=b):=rfl
theorem y9 (a b:Int):leI a b=decide (a≤b):=rfl
theorem zg (a b:Int):ltI a b=decide (a<b):=rfl
end
def Ag (x:Ins)(n:Nat):Bool:=
 if n≤8∨n=10 then qt x.src.imm x.size
 else if n=9 then decide (x.size=8∧x.dst.kind=1)||qt x.src.imm x.size
 else if 20≤n∧n≤24 then decide (¬(x.src.kind=1∧x.src.reg≠1)∧0≤x.src.imm∧x.src.imm≤255)
 else if n=26 then decide (x.frm=1∨x.frm=2∧2<x.size)
 else if n=27 then decide (x.frm=1∨x.frm=2∧2<x.size∨x.frm=4∧x.size=8)
 else if n=29∨n=31∨n=32∨n=33 then qt x.src.imm 4
 else if n=44 then decide (0≤x.src.imm∧x.src.imm≤255)
 else true
def shB (x:Ins)(n:Nat):Bool:=decide (x.size∈szL (szK n))&&((prK n).any (fW x.dst.kind x.src.kind)&&Ag x n)
theorem two_eq (x:Ins)(ps:List (List UInt8))(n:Nat)(hn:n<45)(h:prK n=ps)(hl:ps.length≤100):aK ((x,(ps,())),())=some ((prK n).any (fW x.dst.kind x.src.kind),()):=by
 subst h;exact wI x _ (An n hn) hl
set_option synthInstance.maxSize 40000
set_option synthInstance.maxHeartbeats 4000000
theorem sh_all:∀n:Nat,n<45→1≤n→(n=1∧(n:Int)=1∧szK n=0∧prK n=[[114,114],[109,114],[114,109],[114,105],[109,105]]∨
  n=2∧(n:Int)=2∧szK n=0∧prK n=[[114,114],[109,114],[114,109],[114,105],[109,105]]∨
  n=3∧(n:Int)=3∧szK n=0∧prK n=[[114,114],[109,114],[114,109],[114,105],[109,105]]∨
  n=4∧(n:Int)=4∧szK n=0∧prK n=[[114,114],[109,114],[114,109],[114,105],[109,105]]∨
  n=5∧(n:Int)=5∧szK n=0∧prK n=[[114,114],[109,114],[114,109],[114,105],[109,105]]∨
  n=6∧(n:Int)=6∧szK n=0∧prK n=[[114,114],[109,114],[114,109],[114,105],[109,105]]∨
  n=7∧(n:Int)=7∧szK n=0∧prK n=[[114,114],[109,114],[114,109],[114,105],[109,105]]∨
  n=8∧(n:Int)=8∧szK n=0∧prK n=[[114,114],[109,114],[114,109],[114,105],[109,105]]∨
  n=9∧(n:Int)=9∧szK n=0∧prK n=[[114,114],[109,114],[114,109],[114,105],[109,105]]∨
  n=10∧(n:Int)=10∧szK n=0∧prK n=[[114,114],[109,114],[114,105],[109,105]]∨
  n=11∧(n:Int)=11∧szK n=0∧prK n=[[114,48],[109,48]]∨
  n=12∧(n:Int)=12∧szK n=0∧prK n=[[114,48],[109,48]]∨
  n=13∧(n:Int)=13∧szK n=0∧prK n=[[48,114],[48,109]]∨
  n=14∧(n:Int)=14∧szK n=0∧prK n=[[48,114],[48,109]]∨
  n=15∧(n:Int)=15∧szK n=0∧prK n=[[48,114],[48,109]]∨
  n=16∧(n:Int)=16∧szK n=0∧prK n=[[48,114],[48,109]]∨
  n=17∧(n:Int)=17∧szK n=1∧prK n=[[114,114],[114,109]]∨
  n=18∧(n:Int)=18∧szK n=0∧prK n=[[114,48],[109,48]]∨
  n=19∧(n:Int)=19∧szK n=0∧prK n=[[114,48],[109,48]]∨
  n=20∧(n:Int)=20∧szK n=0∧prK n=[[114,114],[109,114],[114,105],[109,105]]∨
  n=21∧(n:Int)=21∧szK n=0∧prK n=[[114,114],[109,114],[114,105],[109,105]]∨
  n=22∧(n:Int)=22∧szK n=0∧prK n=[[114,114],[109,114],[114,105],[109,105]]∨
  n=23∧(n:Int)=23∧szK n=0∧prK n=[[114,114],[109,114],[114,105],[109,105]]∨
  n=24∧(n:Int)=24∧szK n=0∧prK n=[[114,114],[109,114],[114,105],[109,105]]∨
  n=25∧(n:Int)=25∧szK n=1∧prK n=[[114,109]]∨
  n=26∧(n:Int)=26∧szK n=1∧prK n=[[114,114],[114,109]]∨
  n=27∧(n:Int)=27∧szK n=1∧prK n=[[114,114],[114,109]]∨
  n=28∧(n:Int)=28∧szK n=0∧prK n=[[114,114],[109,114]]∨
  n=29∧(n:Int)=29∧szK n=2∧prK n=[[48,114],[48,109],[48,105]]∨
  n=30∧(n:Int)=30∧szK n=2∧prK n=[[114,48],[109,48]]∨
  n=31∧(n:Int)=31∧szK n=2∧prK n=[[48,114],[48,109],[48,105]]∨
  n=32∧(n:Int)=32∧szK n=2∧prK n=[[48,114],[48,109],[48,105]]∨
  n=33∧(n:Int)=33∧szK n=4∧prK n=[[48,105]]∨
  n=34∧(n:Int)=34∧szK n=4∧prK n=[[48,48]]∨
  n=35∧(n:Int)=35∧szK n=3∧prK n=[[114,48],[109,48]]∨
  n=36∧(n:Int)=36∧szK n=1∧prK n=[[114,114],[114,109]]∨
  n=37∧(n:Int)=37∧szK n=4∧prK n=[[48,48]]∨
  n=38∧(n:Int)=38∧szK n=4∧prK n=[[48,48]]∨
  n=39∧(n:Int)=39∧szK n=1∧prK n=[[48,48]]∨
  n=40∧(n:Int)=40∧szK n=1∧prK n=[[48,48]]∨
  n=41∧(n:Int)=41∧szK n=3∧prK n=[[48,48]]∨
  n=42∧(n:Int)=42∧szK n=3∧prK n=[[48,48]]∨
  n=43∧(n:Int)=43∧szK n=4∧prK n=[[48,48]]∨
  n=44∧(n:Int)=44∧szK n=4∧prK n=[[48,105]]):=by decide +kernel
theorem zC (x:Ins){n:Nat}(h1:1≤n)(hn:n<45)(h:x.op=n):dL ((x,()),())=some (shB x n,()):=by
 obtain⟨A,hA⟩:∃A,A=(prK n).any (fW x.dst.kind x.src.kind):=⟨_,rfl⟩
 rcases sh_all n hn h1 with ⟨rfl,hc,hk,hp⟩|⟨rfl,hc,hk,hp⟩|⟨rfl,hc,hk,hp⟩|⟨rfl,hc,hk,hp⟩|⟨rfl,hc,hk,hp⟩|⟨rfl,hc,hk,hp⟩|⟨rfl,hc,hk,hp⟩|⟨rfl,hc,hk,hp⟩|⟨rfl,hc,hk,hp⟩|⟨rfl,hc,hk,hp⟩|⟨rfl,hc,hk,hp⟩|⟨rfl,hc,hk,hp⟩|⟨rfl,hc,hk,hp⟩|⟨rfl,hc,hk,hp⟩|⟨rfl,hc,hk,hp⟩|⟨rfl,hc,hk,hp⟩|⟨rfl,hc,hk,hp⟩|⟨rfl,hc,hk,hp⟩|⟨rfl,hc,hk,hp⟩|⟨rfl,hc,hk,hp⟩|⟨rfl,hc,hk,hp⟩|⟨rfl,hc,hk,hp⟩|⟨rfl,hc,hk,hp⟩|⟨rfl,hc,hk,hp⟩|⟨rfl,hc,hk,hp⟩|⟨rfl,hc,hk,hp⟩|⟨rfl,hc,hk,hp⟩|⟨rfl,hc,hk,hp⟩|⟨rfl,hc,hk,hp⟩|⟨rfl,hc,hk,hp⟩|⟨rfl,hc,hk,hp⟩|⟨rfl,hc,hk,hp⟩|⟨rfl,hc,hk,hp⟩|⟨rfl,hc,hk,hp⟩|⟨rfl,hc,hk,hp⟩|⟨rfl,hc,hk,hp⟩|⟨rfl,hc,hk,hp⟩|⟨rfl,hc,hk,hp⟩|⟨rfl,hc,hk,hp⟩|⟨rfl,hc,hk,hp⟩|⟨rfl,hc,hk,hp⟩|⟨rfl,hc,hk,hp⟩|⟨rfl,hc,hk,hp⟩|⟨rfl,hc,hk,hp⟩
 all_goals
  rw[hc]at h
  clear hc h1
  have h2:=two_eq x _ _ hn hp (by decide)
  unfold shB
  rw[hk]
  rw[←hA]at h2⊢
  clear hA hp hk
  unfold dL
  dsimp only
  rw[j7,jO,af]
  dsimp only
  by_cases hs:x.size=1∨x.size=2∨x.size=4∨x.size=8
  ·have h3:=ni (v:=x.src.imm) (z:=x.size) (by omega)
   have h4:=ni (v:=x.src.imm) (z:=4) (by decide)
   simp only[h,h2,h3,h4,decide_eq_true hs,fo,fP,af,aL,bn,aE,rL,tI1,tI2,tI4,tI11,tI12,m5,Int.reduceEq,Int.reduceLE,Int.reduceLT,decide_true,decide_false,and_false,and_true,true_and,false_and,cg,aR,yz,y9,zg]
   rcases hs with hs|hs|hs|hs<;>(simp[brF,szL,Ag,aX,yz,y9,zg,hs,Bool.and_comm,Bool.and_left_comm,Bool.and_assoc,Bool.or_assoc];try rfl)
  ·have h4:=ni (v:=x.src.imm) (z:=4) (by decide)
   simp only[h,h2,h4,decide_eq_false hs,fo,fP,af,aL,bn,aE,rL,tI1,tI2,tI4,tI11,tI12,m5,Int.reduceEq,Int.reduceLE,Int.reduceLT,decide_true,decide_false,and_false,and_true,true_and,false_and,cg,aR,yz,y9,zg]
   have hz:x.size≠1∧x.size≠2∧x.size≠4∧x.size≠8:=by omega
   (simp[brF,szL,Ag,aX,yz,y9,zg,hz,Bool.and_comm,Bool.and_left_comm,Bool.and_assoc,Bool.or_assoc];try rfl)
def ry (k r b i z:Int):Prop:=k=1∧(8≤r∧r≤15∨z=1∧4≤r∧r≤7)∨k=2∧(8≤b∧b≤15∨8≤i)
instance (k r b i z:Int):Decidable (ry k r b i z):=by unfold ry;infer_instance
def noP (k r:Int):Prop:=k=1∧16≤r
instance (k r:Int):Decidable (noP k r):=by unfold noP;infer_instance
theorem wH {k r b i s d m z:Int}:dU (((k,(r,(b,(i,(s,(d,(m,()))))))),(z,())),())=some ((decide (ry k r b i z),(decide (noP k r),())),()):=by
 unfold dU
 dsimp only
 rw[cg]
 by_cases h1:k=1
 ·subst h1
  have e2:leI 16 r=decide (noP 1 r):=by rw[Bool.eq_iff_iff,decide_eq_true_eq,tU];unfold noP;omega
  rw[ag (bU rfl),aR,af,e2]
  dsimp only
  by_cases h:8≤r∧r≤15
  ·rw[decide_eq_true h,ag rfl]
   have:decide (ry 1 r b i z)=true:=decide_eq_true (by unfold ry;omega)
   rw[this]
  ·rw[decide_eq_false h,aB rfl]
   by_cases hz:z=1
   ·rw[ag (bU hz),aR,af]
    have:decide (4≤r∧r≤7)=decide (ry 1 r b i z):=by rw[Bool.eq_iff_iff,decide_eq_true_eq,decide_eq_true_eq];unfold ry;omega
    rw[this]
   ·rw[aB (aP hz)]
    have:decide (ry 1 r b i z)=false:=decide_eq_false (by unfold ry;omega)
    rw[this]
 ·rw[aB (aP h1)]
  have e2:decide (noP k r)=false:=decide_eq_false (by unfold noP;omega)
  rw[e2]
  by_cases h2:k=2
  ·subst h2
   rw[ag (bU rfl),aR,af]
   dsimp only
   rw[fP,af]
   have:(decide (8≤b∧b≤15)||leI 8 i)=decide (ry 2 r b i z):=by
    rw[Bool.eq_iff_iff,decide_eq_true_eq]
    simp only[Bool.or_eq_true,decide_eq_true_eq,tU]
    unfold ry;omega
   rw[this]
  ·rw[aB (aP h2)]
   have:decide (ry k r b i z)=false:=decide_eq_false (by unfold ry;omega)
   rw[this]
def sSz (x:Ins)(n:Nat):Int:=if 20≤n∧n≤24 then 8 else if 0<x.frm then x.frm else x.size
def j9 (o:Opd)(z:Int):Prop:=opB o.kind o.reg o.base o.index o.scale o.disp o.imm z
def ol (o:Opd)(z:Int):Prop:=ry o.kind o.reg o.base o.index z
def Ae (o:Opd):Prop:=noP o.kind o.reg
instance (o:Opd) (z:Int):Decidable (j9 o z):=by unfold j9;infer_instance
instance (o:Opd) (z:Int):Decidable (ol o z):=by unfold ol;infer_instance
instance (o:Opd):Decidable (Ae o):=by unfold Ae;infer_instance
def oJ (x:Ins)(n:Nat):Prop:=
 0≤x.len∧x.len≤15∧shB x n=true∧((n=26∨n=27)∨x.frm=0)∧((n=33∨n=35∨n=36)∨x.cond=0)∧0≤x.cond∧x.cond≤15∧j9 x.dst x.size∧j9 x.src (sSz x n)∧
 (¬(Ae x.dst∨Ae x.src)∨¬ol x.dst x.size∧¬ol x.src (sSz x n)∧(x.size≠8∨29≤n∧n≤32))
instance (x:Ins) (n:Nat):Decidable (oJ x n):=by unfold oJ;infer_instance
theorem sw (x:Ins){n:Nat}(h:x.op=n):dM ((x,()),())=some ((x.size,(sSz x n,())),()):=by
 unfold dM cJ sSz
 dsimp only
 rw[cg,h]
 by_cases hf:0<x.frm
 ·rw[ag (nX hf),af,aR,af,if_pos hf]
  dsimp only
  by_cases hn:20≤n∧n≤24
  ·rw[decide_eq_true (by omega),ag rfl,af,if_pos hn,aE]
  ·rw[decide_eq_false (by omega),aB rfl,af,if_neg hn,aE]
 ·rw[aB (nW hf),af,aR,af,if_neg hf]
  dsimp only
  by_cases hn:20≤n∧n≤24
  ·rw[decide_eq_true (by omega),ag rfl,af,if_pos hn,aE]
  ·rw[decide_eq_false (by omega),aB rfl,af,if_neg hn,aE]
theorem tS (x:Ins){n:Nat}(h1:1≤n)(h2:n<45)(h:x.op=n):bt ((x,()),())=some (decide (oJ x n),()):=by
 unfold bt fN fD
 dsimp only[ck]
 rw[cg,h,aR,af,af]
 dsimp only
 rw[decide_eq_true (by omega),bP,aR,zC x h1 h2 h,sw x h]
 simp only[aL,af,aR,pJ,wH,fP,fo]
 have go:∀ {q:Prop} [Decidable q] {c:Bool} {rest:Option (Bool×Unit)},(c=true→¬q)→(c=false→rest=some (decide q,()))→br c (some (false,())) rest=some (decide q,()):=by
  intro q _ c rest h1 h2
  cases c
  ·exact h2 rfl
  ·rw[decide_eq_false (h1 rfl)];rfl
 refine go (fun hc hq=>?_) fun hc=>?_
 ·unfold oJ at hq
  simp only[Bool.or_eq_true,cE,decide_eq_false_iff_not]at hc
  rcases hc with hc|hc
  ·exact hc ⟨hq.1,hq.2.1⟩
  ·rw[hq.2.2.1]at hc;cases hc
 ·simp only[Bool.or_eq_false_iff,iQ,decide_eq_true_eq]at hc
  refine go (fun hd hq=>?_) fun hd=>?_
  ·unfold oJ at hq
   simp only[Bool.and_eq_true,cE,oc]at hd
   omega
  ·refine go (fun he hq=>?_) fun he=>?_
   ·unfold oJ at hq
    simp only[Bool.and_eq_true,Bool.or_eq_true,cE,oc,decide_eq_false_iff_not]at he
    omega
   ·refine go (fun hf hq=>?_) fun hf=>?_
    ·unfold oJ at hq
     simp only[Bool.or_eq_true,cE,decide_eq_false_iff_not]at hf
     rcases hf with hf|hf
     ·exact hf hq.2.2.2.2.2.2.2.1
     ·exact hf hq.2.2.2.2.2.2.2.2.1
    ·simp only[Bool.or_eq_false_iff,iQ,decide_eq_true_eq]at hf
     congr 2
     rw[Bool.eq_iff_iff,decide_eq_true_eq]
     simp only[Bool.and_eq_false_iff,Bool.or_eq_false_iff,iQ,ca,decide_eq_true_eq]at hd he
     unfold oJ
     simp only[Bool.and_eq_true,Bool.or_eq_true,cE,Bool.or_eq_false_iff,decide_eq_false_iff_not,ca,oc]
     have w:(x.size≠8∨(((n:Int)=29∨(n:Int)=30)∨(n:Int)=31)∨(n:Int)=32)↔(x.size≠8∨29≤n∧n≤32):=by omega
     rw[w]
     constructor
     ·intro g
      exact⟨hc.1.1,hc.1.2,hc.2,by omega,by omega,he.2.1,he.2.2,hf.1,hf.2,g.imp (fun g a=>a.elim g.1 g.2) fun g=>⟨g.1.1,g.1.2,g.2⟩⟩
     ·rintro⟨_,_,_,_,_,_,_,_,_,g⟩
      exact g.imp (fun g=>⟨fun a=>g (.inl a),fun a=>g (.inr a)⟩) fun g=>⟨⟨g.1,g.2.1⟩,g.2.2⟩
def kc (k:Int):Nat:=if k=1 then 1 else if k=2 then 2 else if k=3 then 3 else 0
theorem q6 (o:Opd):bJ ((ck o (),()),())=some ([wM (kc o.kind)],()):=by
 unfold bJ kc
 dsimp only[ck]
 by_cases h1:o.kind=1
 ·rw[ag (bU h1),if_pos h1];rfl
 ·rw[aB (aP h1),if_neg h1]
  by_cases h2:o.kind=2
  ·rw[ag (bU h2),if_pos h2];rfl
  ·rw[aB (aP h2),if_neg h2]
   by_cases h3:o.kind=3
   ·rw[ag (bU h3),if_pos h3];rfl
   ·rw[aB (aP h3),if_neg h3];rfl
theorem kc_lt (k:Int):kc k<4:=by unfold kc;(repeat' split)<;>omega
theorem kc_eq {k:Int}(h:0≤k∧k≤3):(kc k:Int)=k:=by unfold kc;(repeat' split)<;>omega
def ly (x:Ins)(n:Nat):Prop:=if n=26 then x.frm=1∨x.frm=2∧2<x.size else if n=27 then x.frm=1∨x.frm=2∧2<x.size∨x.frm=4∧x.size=8 else x.frm=0
instance (x:Ins) (n:Nat):Decidable (ly x n):=by unfold ly;infer_instance
theorem wA (x:Ins){n:Nat}(h:x.op=n):eQ ((x,()),())=some (decide (ly x n),()):=by
 unfold eQ
 dsimp only
 rw[h]
 by_cases h1:n=26
 ·rw[ag (bU (by omega))]
  simp only[fo,fP,af]
  congr 2
  rw[Bool.eq_iff_iff,decide_eq_true_eq]
  simp only[Bool.or_eq_true,Bool.and_eq_true,ca,mb]
  unfold ly
  rw[if_pos h1]
 ·rw[aB (aP (by omega))]
  by_cases h2:n=27
  ·rw[ag (bU (by omega))]
   simp only[fo,fP,af]
   congr 2
   rw[Bool.eq_iff_iff,decide_eq_true_eq]
   simp only[Bool.or_eq_true,Bool.and_eq_true,ca,mb]
   unfold ly
   rw[if_neg h1,if_pos h2,or_assoc]
  ·rw[aB (aP (by omega))]
   congr 2
   rw[Bool.eq_iff_iff,decide_eq_true_eq,ca]
   unfold ly
   rw[if_neg h1,if_neg h2]
theorem lG (n:Int):aW ((n,()),())=some (decide (20≤n∧n≤24),()):=by
 unfold aW
 dsimp only
 rw[aR,af]
def iSz (x:Ins)(n:Nat):Int:=if x.frm≠0 then x.frm else if(20≤n∧n≤24)∨x.size=0 then 8 else x.size
theorem pb (x:Ins){n:Nat}(h:x.op=n):bD ((x,()),())=some (iSz x n,()):=by
 unfold bD iSz
 dsimp only
 rw[h,lG]
 by_cases hf:x.frm=0
 ·rw[bU hf,bP,aB rfl,af,if_neg (by simp[hf])]
  dsimp only
  rw[fP,af]
  by_cases hc:(20≤n∧n≤24)∨x.size=0
  ·rw[if_pos hc,ag (by simp only[Bool.or_eq_true,decide_eq_true_eq,ca];omega)]
  ·rw[if_neg hc,aB (by simp only[Bool.or_eq_false_iff,decide_eq_false_iff_not,oc];omega)]
 ·rw[aP hf,dO,ag rfl,if_pos hf]
def hiP (o:Opd):Prop:=o.kind=1∧16≤o.reg∧o.reg≤19
instance (o:Opd):Decidable (hiP o):=by unfold hiP;infer_instance
theorem oH (o:Opd):dx ((ck o (),()),())=some (decide (hiP o),()):=by
 unfold dx ap
 dsimp only[ck]
 simp only[aR,af,fo]
 congr 2
 rw[Bool.eq_iff_iff,decide_eq_true_eq]
 simp only[Bool.and_eq_true,ca,decide_eq_true_eq]
 unfold hiP
 omega
def rU (o:Opd)(z:Int):Prop:=o.kind=1∧(8≤o.reg∧o.reg≤15∨z=1∧4≤o.reg∧o.reg≤7)∨o.kind=2∧(8≤o.base∧o.base≤15∨8≤o.index∧o.index≤15)
instance (o:Opd) (z:Int):Decidable (rU o z):=by unfold rU;infer_instance
theorem ou (o:Opd)(z:Int):dw ((ck o (),(z,())),())=some (decide (rU o z),()):=by
 unfold dw cy ej
 dsimp only[ck]
 by_cases h1:o.kind=1
 ·rw[ag (bU h1)]
  simp only[aR,af,fo,fP]
  congr 2
  rw[Bool.eq_iff_iff,decide_eq_true_eq]
  simp only[Bool.or_eq_true,Bool.and_eq_true,ca,decide_eq_true_eq]
  unfold rU
  omega
 ·rw[aB (aP h1)]
  by_cases h2:o.kind=2
  ·rw[ag (bU h2)]
   simp only[aR,af,fP]
   congr 2
   rw[Bool.eq_iff_iff,decide_eq_true_eq]
   simp only[Bool.or_eq_true,decide_eq_true_eq]
   unfold rU
   omega
  ·rw[aB (aP h2)]
   congr 2
   symm
   exact decide_eq_false (by unfold rU;omega)
theorem qN:∀n:Nat,n<45→(dp (((n:Int),()),())).map (fun y=>y.1.2.1)=some (decide ((29≤n∧n≤34)∨n=37∨n=38∨n=43∨n=44)):=by decide +kernel
def yI (n:Nat):Prop:=(29≤n∧n≤34)∨n=37∨n=38∨n=43∨n=44
instance (n:Nat):Decidable (yI n):=by unfold yI;infer_instance
theorem wE (x:Ins){n:Nat}(h2:n<45)(h:x.op=n):eR ((x,()),())=some (decide (x.size=8∧¬yI n),()):=by
 unfold eR
 dsimp only
 rw[h]
 have:=qN n h2
 cases hx:dp (((n:Int),()),())with
 |none=>rw[hx]at this;cases this
 |some y=>
  rw[hx]at this
  simp only[Option.map_some,Option.some.injEq]at this
  rw[af]
  simp only[this,fo,af]
  congr 2
  rw[Bool.eq_iff_iff,decide_eq_true_eq]
  simp only[Bool.and_eq_true,ca,cE,decide_eq_false_iff_not]
  exact Iff.rfl
theorem sE (x:Ins){n:Nat}(h2:n<45)(h:x.op=n):dH ((x,()),())=some (decide ((x.size=8∧¬yI n)∨rU x.dst x.size∨rU x.src (iSz x n)),()):=by
 unfold dH
 dsimp only
 rw[wE x h2 h,af]
 dsimp only
 by_cases h1:x.size=8∧¬yI n
 ·rw[decide_eq_true h1,ag rfl,decide_eq_true (.inl h1)]
 ·rw[decide_eq_false h1,aB rfl,ou,af]
  dsimp only
  by_cases h3:rU x.dst x.size
  ·rw[decide_eq_true h3,ag rfl,decide_eq_true (.inr (.inl h3))]
  ·rw[decide_eq_false h3,aB rfl,pb x h,af,ou,af]
   congr 2
   rw[Bool.eq_iff_iff,decide_eq_true_eq,decide_eq_true_eq]
   simp[h1,h3]
def numI (x:Ins)(n:Nat):Bool:=
 if(20≤n∧n≤24)∨n=44 then decide (0≤x.src.imm∧x.src.imm≤255)
 else if n=9∧x.size=8∧x.dst.kind=1 then true
 else if x.size=0 then qt x.src.imm 4 else qt x.src.imm x.size
theorem z6 {v z:Int}(h:1≤z):cm ((v,(jk 4 z,())),())=some (qt v z,()):=by
 have e:jk 4 z=jk z 4:=by unfold jk;split<;>split<;>omega
 have hb:1≤jk z 4∧jk z 4≤4:=by unfold jk;split<;>omega
 rw[e,fits_eq v _ hb.1 hb.2,lJ v _ hb.1 hb.2]
 rfl
theorem sq (x:Ins){n:Nat}(h:x.op=n)(hs:0≤x.size):dG ((x,()),())=some (numI x n,()):=by
 unfold dG gh numI
 dsimp only
 rw[h,lG,af]
 dsimp only
 rw[fP,af]
 by_cases h1:(20≤n∧n≤24)∨n=44
 ·rw[if_pos h1,ag (by simp only[Bool.or_eq_true,decide_eq_true_eq,ca];omega),aR,af,af]
 ·rw[if_neg h1,aB (by simp only[Bool.or_eq_false_iff,decide_eq_false_iff_not,oc];omega),fo,af,fo,af]
  by_cases h2:n=9∧x.size=8∧x.dst.kind=1
  ·rw[if_pos h2,ag (by simp only[Bool.and_eq_true,ca];omega)]
  ·rw[if_neg h2,aB (by rw[←Bool.not_eq_true];simp only[Bool.and_eq_true,ca];omega)]
   by_cases h3:x.size=0
   ·rw[if_pos h3,ag (bU h3)]
    have:=z6 (v:=x.src.imm) (z:=4) (by decide)
    rw[tK (by decide)]at this
    rw[this,af]
   ·rw[if_neg h3,aB (aP h3),z6 (by omega),af]
theorem uO (n:Int):ef ((n,()),())=some (decide (n=33∨n=35∨n=36),()):=by
 unfold ef
 dsimp only
 simp only[fP,af]
 congr 2
 rw[Bool.eq_iff_iff,decide_eq_true_eq]
 simp only[Bool.or_eq_true,ca,or_assoc]
theorem cpD (x:Ins):cp7 (fB x ()).2.2.2.2 ()=ck x.dst ():=rfl
theorem cpS (x:Ins):cp7 (d11 (fB x ())) ()=ck x.src ():=rfl
theorem mH (o:Opd)(z:Int)(h:I64 o.disp):cb ((ck o (),(z,())),())=some (decide (jz z∧j9 o z),()):=by
 have:=qx (k:=o.kind) (r:=o.reg) (b:=o.base) (i:=o.index) (s:=o.scale) (d:=o.disp) (m:=o.imm) (z:=z) h
 refine this.trans ?_
 congr 2
 rw[Bool.eq_iff_iff,decide_eq_true_eq,decide_eq_true_eq]
 exact zy
def ww (x:Ins)(n:Nat):Prop:=
 (0≤x.len∧x.len≤15)∧(0≤x.cond∧x.cond≤15)∧(x.cond=0∨n=33∨n=35∨n=36)∧x.size∈szL (szK n)∧ly x n∧(prK n).any (fW (kc x.dst.kind) (kc x.src.kind))=true∧
 (jz (wt 1 x.size)∧j9 x.dst (wt 1 x.size))∧(jz (iSz x n)∧j9 x.src (iSz x n))∧(x.src.kind=3→numI x n=true)∧(20≤n∧n≤24→x.src.kind=1→x.src.reg=1)∧
 (¬(hiP x.dst∨hiP x.src)∨¬((x.size=8∧¬yI n)∨rU x.dst x.size∨rU x.src (iSz x n)))
instance (x:Ins) (n:Nat):Decidable (ww x n):=by unfold ww;infer_instance
theorem guard {q:Prop}[Decidable q]{c:Bool}{rest:Option (Bool×Unit)}(h1:c=true→¬q)(h2:c=false→Ret rest (· =(decide q,()))):Ret (br c (some (false,())) rest) (· =(decide q,())):=by
 cases c
 ·exact h2 rfl
 ·rw[decide_eq_false (h1 rfl)];exact Ret.some rfl
theorem xI {n:Nat}{z:Int}(h:z∈szL (szK n)):z=0∨z=1∨z=2∨z=4∨z=8:=by
 unfold szL at h
 repeat' split at h
 all_goals (simp only[List.mem_cons,List.not_mem_nil,or_false]at h;omega)
theorem vK (x:Ins){n:Nat}(h1:1≤n)(h2:n<45)(h:x.op=n)(hd:I64 x.dst.disp)(hs:I64 x.src.disp):Ret (aV ((x,()),())) (· =(decide (ww x n),())):=by
 obtain⟨fl,hf⟩:=yK n h2 h1
 unfold aV eF
 dsimp only
 rw[h,aR,af,af]
 dsimp only
 rw[decide_eq_true (by omega),bP]
 simp only[aL,aR,af,uO,fP,fo]
 refine guard (fun hc hq=>?_) fun hc=>?_
 ·unfold ww at hq
  simp only[Bool.or_eq_true,Bool.and_eq_true,cE,decide_eq_false_iff_not,oc]at hc
  omega
 ·simp only[Bool.or_eq_false_iff,Bool.and_eq_false_iff,iQ,decide_eq_true_eq,ca]at hc
  rw[uL h2,af]
  dsimp only
  rw[yL n h2 h1]
  have hln:(szL (szK n)).length≤4:=by unfold szL;(repeat' split)<;>decide
  refine Ret.iter (fun y=>∃i:Nat,i≤(szL (szK n)).length∧y=(((fz n).2,(decide (x.size∈(szL (szK n)).take i),(szL (szK n),(bW (szL (szK n)),((i:Int),()))))),((fB x ()),()))) (fun y=>(szL (szK n)).length-y.1.2.2.2.2.1.toNat) ?_ F _ ⟨0,by omega,by simp⟩ (by unfold F;simp;omega)
  rintro _ rec ⟨i,hi,rfl⟩ hrec
  dsimp only
  by_cases hlt:i<(szL (szK n)).length
  ·rw[ag (nX (by unfold bW;omega)),ag (by simp[inR,bW];omega),iL hlt,bS (by omega) (by omega)]
   refine hrec _ ⟨i+1,by omega,?_⟩ (by simp;omega)
   have e:(decide (x.size∈(szL (szK n)).take i)||eqI (szL (szK n))[i] (fB x ()).2.1)=decide (x.size∈(szL (szK n)).take (i+1)):=by
    rw[Bool.eq_iff_iff,List.take_succ_eq_append_getElem hlt]
    simp only[Bool.or_eq_true,decide_eq_true_eq,ca,List.mem_append,List.mem_singleton,tI2]
    exact or_congr Iff.rfl eq_comm
   rw[e]
   rfl
  ·have:i=(szL (szK n)).length:=by omega
   subst this
   rw[aB (nW (by unfold bW;omega)),List.take_length]
   rw[cpD,cpS,q6,q6,m5,tI2,tI11,tI12,tI1,h]
   clear hrec rec hi hlt hln
   rw[af,af]
   dsimp only
   have hh:hasS (d9 (d9 [32] (fz n).2) [32]) (d9 (d9 [32] (d9 [wM (kc x.dst.kind)] [wM (kc x.src.kind)])) [32])=(prK n).any (fW (kc x.dst.kind) (kc x.src.kind)):=hf _ (kc_lt _) _ (kc_lt _)
   have f1:fa [wM (kc x.dst.kind)] [wM (kc x.src.kind)]=true:=rH (by simp) (by simp)
   have f2:fa ([32]:List UInt8) (fz n).2=true:=rH (by simp) (by omega)
   have f3:fa (d9 [32] (fz n).2) ([32]:List UInt8)=true:=rH (by simp[d9];omega) (by simp)
   have f4:fa ([32]:List UInt8) (d9 [wM (kc x.dst.kind)] [wM (kc x.src.kind)])=true:=rH (by simp) (by simp[d9])
   have f5:fa (d9 [32] (d9 [wM (kc x.dst.kind)] [wM (kc x.src.kind)])) ([32]:List UInt8)=true:=rH (by simp[d9]) (by simp)
   have f6:qQ (d9 (d9 [32] (fz n).2) [32])=true:=by unfold qQ d9;exact decide_eq_true (by simp;omega)
   rw[f1,f2,f3,f4,f5,f6,hh]
   simp only[bn]
   rw[wA x h,af,fP,af,fP,af]
   refine guard (fun hc2 hq=>?_) fun hc2=>?_
   ·unfold ww at hq
    simp only[Bool.or_eq_true,cE,decide_eq_false_iff_not]at hc2
    rcases hc2 with (g|g)|g
    ·exact g hq.2.2.2.1
    ·exact g hq.2.2.2.2.1
    ·rw[hq.2.2.2.2.2.1]at g;cases g
   ·simp only[Bool.or_eq_false_iff,iQ,decide_eq_true_eq]at hc2
    have hsz:=xI hc2.1.1
    rw[mH _ _ hd,af]
    refine guard (fun g hq=>?_) fun hc3=>?_
    ·unfold ww at hq
     simp only[cE,decide_eq_false_iff_not]at g
     exact g hq.2.2.2.2.2.2.1
    ·simp only[iQ,decide_eq_true_eq]at hc3
     rw[pb x h,af,mH _ _ hs,af]
     refine guard (fun g hq=>?_) fun hc4=>?_
     ·unfold ww at hq
      simp only[cE,decide_eq_false_iff_not]at g
      exact g hq.2.2.2.2.2.2.2.1
     ·simp only[iQ,decide_eq_true_eq]at hc4
      rw[sq x h (by omega),af,fo,af]
      refine guard (fun g hq=>?_) fun hc5=>?_
      ·unfold ww at hq
       simp only[Bool.and_eq_true,ca,cE]at g
       rw[hq.2.2.2.2.2.2.2.2.1 g.1]at g
       cases g.2
      ·have hc5:x.src.kind=3→numI x n=true:=fun hk=>by
        rw[bU hk]at hc5
        cases hv:numI x n with
        |true=>rfl
        |false=>rw[hv]at hc5;cases hc5
       rw[lG,af]
       refine guard (fun g hq=>?_) fun hc6=>?_
       ·unfold ww at hq
        simp only[Bool.and_eq_true,ca,cE,decide_eq_true_eq,oc]at g
        exact g.2 (hq.2.2.2.2.2.2.2.2.2.1 (by omega) g.1.2)
       ·have hc6:20≤n∧n≤24→x.src.kind=1→x.src.reg=1:=fun a b=>by
         apply Classical.byContradiction
         intro hr
         rw[decide_eq_true (by omega),bU b,aP hr]at hc6
         cases hc6
        rw[oH,oH,af,af]
        dsimp only
        rw[fP,af,sE x h2 h,af,fP,af]
        refine Ret.some (congrArg (fun b:Bool=>(b,())) ?_)
        rw[Bool.eq_iff_iff,decide_eq_true_eq]
        simp only[Bool.or_eq_true,cE,Bool.or_eq_false_iff,decide_eq_false_iff_not]
        unfold ww
        constructor
        ·intro g
         exact⟨hc.1.1,hc.1.2,by omega,hc2.1.1,hc2.1.2,hc2.2,hc3,hc4,hc5,hc6,g.imp (fun g a=>a.elim g.1 g.2) id⟩
        ·rintro⟨_,_,_,_,_,_,_,_,_,_,g⟩
         exact g.imp (fun g=>⟨fun a=>g (.inl a),fun a=>g (.inr a)⟩) id
end Go.Den.G
