/- Theory for the proofs of this claim: see its last text. -/
import Derived.Test.YtmpliclmlpjopaaGreatFnExecInstr
import Derived.Test.YtmpliclmlpjopaaGreatDenF
import Derived.KernelRfl
import Derived.Laws.MathBits
namespace Go.Den.G
open Go.Den
def sx (m:Nat)(v:Int):Int:=if(v%2^64/2^m)%2=1 then v%2^(m+1)-2^(m+1)else v%2^(m+1)
theorem km {n:Int}(h0:0≤n)(h1:n<2^64):IntKind.wrap .u64 n=n:=by
 simp only[IntKind.wrap,IntKind.bits,IntKind.signed,Bool.false_and,Bool.false_eq_true,if_false]
 exact Int.emod_eq_of_lt h0 h1
theorem Dh (n:Int):IntKind.wrap .u64 n=n%2^64:=by
 simp[IntKind.wrap,IntKind.bits,IntKind.signed]
theorem pb (v i:Int)(h0:0≤i)(h1:i≤63):aS ((v,(i,())),())=some (v%2^64/2^i.toNat%2,()):=by
 unfold aS
 dsimp only
 have hw:ak IntKind.u64 i=i:=km h0 (by omega)
 rw[hw,ah (fv h0)]
 have hi:min i.toNat 64=i.toNat:=by omega
 have e:io (ci IntKind.u64 (ak IntKind.u64 v) i) 2=v%2^64/2^i.toNat%2:=by
  unfold io ci ak
  rw[Dh]
  show Int.tmod (Int.fdiv (v%2^64) (2^(min i.toNat 64))) 2=_
  rw[hi]
  have hp:(0:Int)<2^i.toNat:=Int.pow_pos (by decide)
  rw[Int.fdiv_eq_ediv_of_nonneg _ (Int.le_of_lt hp),Int.tmod_eq_emod_of_nonneg (Int.ediv_nonneg (Int.emod_nonneg _ (by decide)) (Int.le_of_lt hp))]
 rw[e]
 rcases Int.emod_two_eq (v%2^64/2^i.toNat)with h|h
 ·rw[h,aw (aG (by decide))]
 ·rw[h,ah (bn rfl)]
def gR (m u:Nat):Nat:=2^(m+1)*((u/2^m%2)*(2^(63-m)-1))+u%2^(m+1)
theorem ye (m u i:Nat)(hm:m≤63)(hi:i≤63):gR m u/2^i%2=u/2^(min i m)%2:=by
 have hb:∀a j:Nat,a/2^j%2=(a.testBit j).toNat:=fun a j=>by rw[Nat.testBit_eq_decide_div_mod_eq];rcases Nat.mod_two_eq_zero_or_one (a/2^j)with h|h<;>simp[h]
 rw[hb,hb]
 congr 1
 unfold gR
 rw[Nat.testBit_two_pow_mul_add _ (Nat.mod_lt _ (Nat.two_pow_pos _))]
 split
 ·rename_i h
  rw[Nat.testBit_mod_two_pow,show min i m=i by omega]
  simp[h]
 ·rename_i h
  rw[show min i m=m by omega,hb]
  cases hs:u.testBit m with
  |false=>simp
  |true=>
   simp only[Bool.toNat_true,Nat.one_mul]
   rw[Nat.testBit_two_pow_sub_one]
   simp;omega
theorem pW (m u:Nat)(hm:m≤63):gR m u<2^64:=by
 unfold gR
 have h1:u%2^(m+1)<2^(m+1):=Nat.mod_lt _ (Nat.two_pow_pos _)
 have h2:(u/2^m%2)*(2^(63-m)-1)≤2^(63-m)-1:=by
  have:u/2^m%2≤1:=by omega
  calc _≤1*(2^(63-m)-1):=Nat.mul_le_mul_right _ this
   _=_:=Nat.one_mul _
 have h3:2^(m+1)*2^(63-m)=(2:Nat)^64:=by rw[←Nat.pow_add];congr 1;omega
 have h4:2^(m+1)*((u/2^m%2)*(2^(63-m)-1))≤2^(m+1)*(2^(63-m)-1):=Nat.mul_le_mul_left _ h2
 have h6:2^(m+1)*(2^(63-m)-1)=2^64-2^(m+1):=by rw[Nat.mul_sub,Nat.mul_one,h3]
 rw[h6]at h4
 have h5:(2:Nat)^(m+1)≤2^64:=Nat.pow_le_pow_right (by decide) (by omega)
 omega
def uns (v:Int):Nat:=(v%2^64).toNat
theorem bc (v:Int):((uns v:Nat):Int)=v%2^64:=by unfold uns;have:=Int.emod_nonneg v (show(2:Int)^64≠0 by decide);omega
theorem Aq (m:Nat)(v:Int)(hm:m≤63):IntKind.wrap .i64 (gR m (uns v):Nat)=sx m v:=by
 have hlt:=pW m (uns v) hm
 have hu:=bc v
 have hp:((2^m:Nat):Int)=2^m:=by simp
 have hp1:((2^(m+1):Nat):Int)=2^(m+1):=by simp
 have hs:v%2^64/2^m%2=((uns v/2^m%2:Nat):Int):=by rw[←hu];simp
 have hr:v%2^(m+1)=((uns v%2^(m+1):Nat):Int):=by
  have h1:v%2^(m+1)=v%2^64%2^(m+1):=by
   rw[Int.emod_emod_of_dvd]
   exact⟨2^(63-m),by rw[←Int.pow_add];congr 1;omega⟩
  rw[h1,←hu];simp
 have hmod:uns v%2^(m+1)<2^(m+1):=Nat.mod_lt _ (Nat.two_pow_pos _)
 have h64:2^(m+1)*2^(63-m)=(2:Nat)^64:=by rw[←Nat.pow_add];congr 1;omega
 unfold sx
 rw[hs,hr]
 have hle:(2:Nat)^(m+1)≤2^64:=Nat.pow_le_pow_right (by decide) (by omega)
 have hdbl:(2:Nat)^(m+1)=2^m*2:=Nat.pow_succ 2 m
 have hle2:(2:Nat)^m≤2^63:=Nat.pow_le_pow_right (by decide) hm
 have hhi:uns v%2^(m+1)/2^m=uns v/2^m%2:=by rw[hdbl,Nat.mod_mul_right_div_self]
 rcases Nat.mod_two_eq_zero_or_one (uns v/2^m)with h|h
 ·rw[h,if_neg (by decide)]
  have e:gR m (uns v)=uns v%2^(m+1):=by unfold gR;rw[h];simp
  rw[e]
  have:uns v%2^(m+1)<2^m:=by
   rw[h]at hhi
   exact(Nat.div_eq_zero_iff.1 hhi).resolve_left (by have:=Nat.two_pow_pos m;omega)
  exact dm (by unfold I64;omega)
 ·rw[h,if_pos (by rfl)]
  have e:gR m (uns v)+2^(m+1)=2^64+uns v%2^(m+1):=by
   unfold gR
   rw[h,Nat.one_mul,Nat.mul_sub,Nat.mul_one,h64]
   omega
  have h2:2^m≤uns v%2^(m+1):=by
   rw[h]at hhi
   have:=Nat.div_mul_le_self (uns v%2^(m+1)) (2^m)
   rw[hhi]at this;omega
  have:((gR m (uns v):Nat):Int)=((uns v%2^(m+1):Nat):Int)-2^(m+1)+2^64:=by rw[←hp1];omega
  rw[this]
  have hw:∀n:Int,IntKind.wrap .i64 (n+2^64)=IntKind.wrap .i64 n:=fun n=>by
   have h3:(n+2^64)%2^IntKind.i64.bits=n%2^IntKind.i64.bits:=Int.add_emod_right ..
   simp only[IntKind.wrap,h3]
  rw[hw]
  rw[←hp1]
  exact dm (by unfold I64;omega)
theorem gX (v n:Int)(h0:1≤n)(h1:n≤8):aP ((v,(n,())),())=some (sx (8*n-1).toNat v,()):=by
 unfold aP
 obtain⟨k,hk⟩:∃k:Nat,n=k:=⟨n.toNat,by omega⟩
 subst hk
 generalize hm:(8*(k:Int)-1).toNat=m
 have hm63:m≤63:=by omega
 refine(fo (fun x=>x.1.1=v∧x.1.2.1=(k:Int)∧ -1≤x.1.2.2.2.1∧x.1.2.2.2.1≤63∧x.1.2.2.1=((gR m (uns v)/2^(x.1.2.2.2.1+1).toNat:Nat):Int)) (fun x=>(x.1.2.2.2.1+1).toNat)
  (fun _=>some (sx m v,())) ?_ F _ ⟨rfl,rfl,by show(-1:Int)≤63;decide,by show(63:Int)≤63;decide,?_⟩ (by show((63:Int)+1).toNat<F;decide)).trans rfl
 ·rintro⟨⟨v',k',acc,i,_⟩,_⟩ rec ⟨rfl,hk',h2,h3,hacc⟩ hrec
  dsimp only at hk' h2 h3 hacc hrec⊢
  subst hk'
  by_cases hi:0≤i
  ·obtain⟨j,rfl⟩:=Int.eq_ofNat_of_zero_le hi
   rw[ah (fv hi)]
   have e1:aM .i64 (bf .i64 8 (k:Int)) 1=(m:Int):=by
    rw[wz (by unfold I64;omega),gz (by unfold I64;omega)];omega
   rw[e1]
   have e2:iV (j:Int) (m:Int)=((min j m:Nat):Int):=by unfold iV;split<;>omega
   rw[e2,pb _ _ (by omega) (by omega),aa]
   dsimp only
   have e3:v'%2^64/2^(((min j m:Nat):Int)).toNat%2=((gR m (uns v')/2^j%2:Nat):Int):=by
    rw[ye m _ j hm63 (by omega),←bc];simp
   rw[e3]
   have hlt:=pW m (uns v') hm63
   have e4:gR m (uns v')/2^(((j:Int)+1).toNat)=gR m (uns v')/2^j/2:=by
    rw[show((j:Int)+1).toNat=j+1 by omega,Nat.pow_succ,Nat.div_div_eq_div_mul]
   rw[e4]at hacc
   generalize hq:gR m (uns v')/2^j=q at hacc⊢
   have hq2:q<2^64:=by rw[←hq];exact Nat.lt_of_le_of_lt (Nat.div_le_self _ _) hlt
   have e5:ax .u64 (bf .u64 2 acc) (ak .u64 ((q%2:Nat):Int))=(q:Int):=by
    unfold ax bf ak
    rw[hacc,km (n:=2*((q/2:Nat):Int)) (by omega) (by omega),km (n:=((q%2:Nat):Int)) (by omega) (by omega),km (by omega) (by omega)]
    omega
   rw[e5,gz (by unfold I64;omega)]
   refine hrec _ ⟨rfl,rfl,by dsimp only;omega,by dsimp only;omega,?_⟩ (by dsimp only;omega)
   dsimp only
   rw[show((j:Int)-1+1).toNat=j by omega,hq]
  ·rw[aw (jy hi)]
   have:i= -1:=by omega
   subst this
   rw[hacc]
   have:gR m (uns v')/2^((-1:Int)+1).toNat=gR m (uns v'):=by simp
   rw[this]
   show some (IntKind.wrap .i64 _,())=_
   rw[Aq m v' hm63]
 ·have hlt:=pW m (uns v) hm63
  show(0:Int)=((gR m (uns v)/2^((63:Int)+1).toNat:Nat):Int)
  rw[show((63:Int)+1).toNat=64 from rfl,Nat.div_eq_of_lt hlt];rfl
theorem ma (v n:Int)(h0:1≤n)(h1:n≤8):bo ((v,(n,())),())=some (sx (8*n-1).toNat v,()):=by
 unfold bo
 dsimp only
 have e:aM .i64 64 (bf .i64 8 n)=64-8*n:=by rw[wz (by unfold I64;omega),gz (by unfold I64;omega)]
 rw[e,ah (fv (by omega)),ah (fv (by omega))]
 congr 2
 obtain⟨m,hm⟩:∃m:Nat,8*n-1=m:=⟨(8*n-1).toNat,by omega⟩
 have hn:64-8*n=((63-m:Nat):Int):=by omega
 rw[hm,hn]
 have hm63:m≤63:=by omega
 simp only[Int.toNat_natCast]
 unfold ci cH
 rw[show min (((63-m:Nat):Int)).toNat IntKind.i64.bits=63-m by simp[IntKind.bits];omega]
 have hp:(0:Int)<2^(63-m):=Int.pow_pos (by decide)
 rw[Int.fdiv_eq_ediv_of_nonneg _ (Int.le_of_lt hp)]
 have h64:(2:Int)^(m+1)*2^(63-m)=2^64:=by rw[←Int.pow_add];congr 1;omega
 have h63:(2:Int)^m*2^(63-m)=2^63:=by rw[←Int.pow_add];congr 1;omega
 have hr:=Int.emod_nonneg v (show(2:Int)^(m+1)≠0 from Int.ne_of_gt (Int.pow_pos (by decide)))
 have hr2:=Int.emod_lt_of_pos v (show(0:Int)<2^(m+1)from Int.pow_pos (by decide))
 have hsv:v%2^64/2^m%2=v%2^(m+1)/2^m:=by
  have h1:v%2^(m+1)=v%2^64%2^(m+1):=by
   rw[Int.emod_emod_of_dvd]
   exact⟨2^(63-m),h64.symm⟩
  rw[h1,Int.pow_succ 2 m]
  have hu:=bc v
  rw[←hu]
  have:((2:Int)^m)=((2^m:Nat):Int):=by simp
  rw[this]
  have h2:((2^m:Nat):Int)*2=((2^m*2:Nat):Int):=by simp
  rw[h2]
  rw[←Int.natCast_ediv,←Int.natCast_emod,←Int.natCast_ediv,Nat.mod_mul_right_div_self]
  simp
 have hdm:v=v%2^(m+1)+2^(m+1)*(v/2^(m+1)):=(Int.emod_add_mul_ediv ..).symm
 have hmul:v*2^(63-m)%2^64=v%2^(m+1)*2^(63-m):=by
  rw[←h64,Int.mul_comm v,Int.mul_comm (2^(m+1)),Int.mul_emod_mul_of_pos _ _ hp,Int.mul_comm]
 unfold sx
 rw[hsv]
 generalize v%2^(m+1)=r at*
 have hpm:(0:Int)<2^m:=Int.pow_pos (by decide)
 have hdbl:(2:Int)^(m+1)=2^m*2:=Int.pow_succ 2 m
 simp only[IntKind.wrap,IntKind.bits,IntKind.signed,Bool.true_and,decide_eq_true_eq,ge_iff_le]
 rw[show((64:Nat)-1)=63 from rfl,hmul]
 by_cases hs:(2:Int)^m≤r
 ·have hq:r/2^m=1:=by
   rw[Int.ediv_eq_iff_of_pos hpm]
   omega
  rw[hq,if_pos rfl]
  have hge:(2:Int)^63≤r*2^(63-m):=by rw[←h63];exact Int.mul_le_mul_of_nonneg_right hs (Int.le_of_lt hp)
  rw[if_pos hge,←h64,←Int.sub_mul,Int.mul_ediv_cancel _ (Int.ne_of_gt hp)]
 ·have hq:r/2^m=0:=Int.ediv_eq_zero_of_lt hr (by omega)
  rw[hq]
  have hge:¬(2:Int)^63≤r*2^(63-m):=by
   rw[←h63,Int.not_le]
   exact Int.mul_lt_mul_of_pos_right (by omega) hp
  rw[if_neg hge,if_neg (by decide),Int.mul_ediv_cancel _ (Int.ne_of_gt hp)]
theorem fits_eq (v n:Int)(h0:1≤n)(h1:n≤4):cU ((v,(n,())),())=bu ((v,(n,())),()):=by
 unfold cU bu
 dsimp only
 rw[ma v n h0 (by omega),show iV n 4=n by unfold iV;split<;>omega,gX v n h0 (by omega)]
def fitsB (v n:Int):Bool:=eqI (sx (8*n-1).toNat v) v
theorem nf (v n:Int)(h0:1≤n)(h1:n≤4):bu ((v,(n,())),())=some (fitsB v n,()):=by
 unfold bu
 dsimp only
 rw[show iV n 4=n by unfold iV;split<;>omega,gX v n h0 (by omega),aa]
 rfl
end Go.Den.G
namespace Go.Den.G
open Go.Den
def pg (m:List Page)(i:Int):Page:=aj m i (ag .page)
def inB (a b c:Int):Bool:=decide (b≤a)&&decide (a≤c)
theorem nZ (a b c:Int):aI ((a,(b,(c,()))),())=some (inB a b c,()):=by
 unfold aI inB
 dsimp only
 by_cases h:b≤a
 ·rw[ah (fv h),aa];simp[leI,h]
 ·rw[aw (jy h),aa];simp[h]
theorem kT (a b c:Int):aF ((a,(b,(c,()))),())=some (inB a b c,()):=nZ a b c
def jl (b:Int):Bool:=inB b 0 65535&&eqI (io b 256) 0
def ko (p:Int):Bool:=inB p 0 7
theorem qM (b:Int):eX ((b,()),())=some (jl b,()):=by
 unfold eX jl
 rw[nZ,aa]
 dsimp only
 cases inB b 0 65535<;>simp[aR,ap,aa]
theorem zi (b:Int):gB ((b,()),())=some (jl b,()):=qM b
theorem qN (b:Int):eZ ((b,()),())=some (ko b,()):=by
 unfold eZ ko
 rw[nZ,aa]
theorem zl (b:Int):gD ((b,()),())=some (ko b,()):=qN b
def good (m:List Page)(i:Int):Bool:=
 jl (pg m i).base&&(ko (pg m i).perm&&(eqI ((pg m i).data.length:Int) 256&&(!decide (0<i)||ltI (pg m (i-1)).base (pg m i).base)))
def jN (m:List Page)(i:Nat):Bool:=(List.range' i (m.length-i)).all fun j=>good m j
theorem pB {m:List Page}{i:Nat}(h:i<m.length):jN m i=(good m i&&jN m (i+1)):=by
 unfold jN
 rw[show m.length-i=(m.length-(i+1))+1 by omega,List.range'_succ]
 rfl
theorem qX {m:List Page}{i:Nat}(h:m.length≤i):jN m i=true:=by
 unfold jN
 rw[show m.length-i=0 by omega];rfl
def pk (m:List Page):Bool:=decide ((m.length:Int)≤32)&&jN m 0
theorem qG (m:List Page)(i:Nat):good m i=(jl (pg m i).base&&(ko (pg m i).perm&&(eqI ((pg m i).data.length:Int) 256&&(!decide (0<(i:Int))||ltI (pg m ((i:Int)-1)).base (pg m i).base)))):=rfl
theorem tI (a b:Int):leI a b= !ltI b a:=by unfold leI ltI;by_cases h:a≤b<;>simp[h]<;>omega
theorem nT (m:List Page)(hm:(m.length:Int)<4611686018427387904):d8 (((m,()),()),())=some (pk m,()):=by
 unfold d8 pk
 simp only[ce]
 by_cases h32:(32:Int)<m.length
 ·rw[ah (gY h32)];simp[show ¬(m.length:Int)≤32 by omega]
 ·rw[aw (gA h32)]
  refine(fo (fun x=>x.2.1.1=m∧0≤x.1.1∧x.1.1≤(m.length:Int)) (fun x=>m.length-x.1.1.toNat) (fun x=>some (jN m x.1.1.toNat,())) ?_ F _ ?_ ?_).trans ?_
  ·rintro⟨⟨i,_⟩,⟨xs,_⟩,_⟩ rec ⟨rfl,h0,h1⟩ hrec
   dsimp only at h0 h1 hrec hm h32⊢
   by_cases hi:i<xs.length
   ·obtain⟨n,rfl⟩:=Int.eq_ofNat_of_zero_le h0
    have hn:n<xs.length:=by omega
    rw[ah (gY hi),ah (cu h0 hi),qM,aa]
    dsimp only
    have hst:rec (((ax IntKind.i64 (n:Int) 1),()),((xs,()),()))=some (jN xs (n+1),()):=by
     rw[eg (by unfold I64;omega)]
     rw[hrec _ ⟨rfl,by dsimp only;omega,by dsimp only;omega⟩ (by dsimp only;omega)]
     rfl
    rw[hst,Int.toNat_natCast,pB hn,qG]
    show _=some ((jl (aj xs (n:Int) (ag .page)).base&&_)&&_,())
    cases jl (aj xs (n:Int) (ag .page)).base
    ·rfl
    ·rw[jp,Bool.not_true,ap,qN,aa]
     dsimp only
     show _=some ((true&&(ko (aj xs (n:Int) (ag .page)).perm&&_))&&_,())
     cases ko (aj xs (n:Int) (ag .page)).perm
     ·rfl
     ·rw[jp,Bool.not_true,ap,jp]
      show _=some ((true&&(true&&(eqI ((aj xs (n:Int) (ag .page)).data.length:Int) 256&&_)))&&_,())
      cases eqI ((aj xs (n:Int) (ag .page)).data.length:Int) 256
      ·rfl
      ·rw[Bool.not_true,ap]
       by_cases hp:0<(n:Int)
       ·rw[ah (gY hp),gz (by unfold I64;omega),ah (cu (by omega) (by omega)),tI]
        show _=some ((true&&(true&&(true&&(!decide (0<(n:Int))||ltI (aj xs ((n:Int)-1) (ag .page)).base (aj xs (n:Int) (ag .page)).base))))&&_,())
        rw[show decide (0<(n:Int))=true from decide_eq_true hp]
        cases ltI (aj xs ((n:Int)-1) (ag .page)).base (aj xs (n:Int) (ag .page)).base
        ·simp[aR]
        ·simp[ap]
       ·rw[aw (gA hp),show decide (0<(n:Int))=false from decide_eq_false hp];simp
   ·rw[aw (gA hi),qX (by omega)]
  ·exact⟨rfl,by simp,by simp⟩
  ·simp[F];omega
  ·simp[show(m.length:Int)≤32 by omega]
theorem nP (m:List Page)(hm:(m.length:Int)<4611686018427387904)(hF:m.length<F):dS (((m,()),()),())=some (pk m,()):=by
 unfold dS pk
 simp only[ce]
 refine(fo (fun x=>x.2.1.1=m∧x.1.1=m∧x.1.2.1=(m.length:Int)∧0≤x.1.2.2.1∧x.1.2.2.1≤(m.length:Int)) (fun x=>m.length-x.1.2.2.1.toNat) (fun x=>some (decide ((m.length:Int)≤32)&&jN m x.1.2.2.1.toNat,())) ?_ F _ ?_ ?_).trans ?_
 ·rintro⟨⟨ys,len,i,_⟩,⟨xs,_⟩,_⟩ rec ⟨rfl,h2,h3,h0,h1⟩ hrec
  dsimp only at h0 h1 h2 h3 hrec hm hF⊢
  subst h2
  subst h3
  by_cases hi:i<ys.length
  ·obtain⟨n,rfl⟩:=Int.eq_ofNat_of_zero_le h0
   have hn:n<ys.length:=by omega
   rw[ah (gY hi),ah (cu h0 hi),zi,aa]
   dsimp only
   have hst:rec ((ys,((ys.length:Int),((ax IntKind.i64 (n:Int) 1),()))),((ys,()),()))=some (decide ((ys.length:Int)≤32)&&jN ys (n+1),()):=by
    rw[eg (by unfold I64;omega)]
    rw[hrec _ ⟨rfl,rfl,rfl,by dsimp only;omega,by dsimp only;omega⟩ (by dsimp only;omega)]
    rfl
   rw[hst,Int.toNat_natCast,pB hn,qG]
   show _=some (_&&((jl (aj ys (n:Int) (ag .page)).base&&_)&&_),())
   cases jl (aj ys (n:Int) (ag .page)).base
   ·simp[jp,aR]
   ·rw[jp,Bool.not_true,ap,zl,aa]
    dsimp only
    show _=some (_&&((true&&(ko (aj ys (n:Int) (ag .page)).perm&&_))&&_),())
    cases ko (aj ys (n:Int) (ag .page)).perm
    ·simp[jp,aR]
    ·rw[jp,Bool.not_true,ap,jp]
     show _=some (_&&((true&&(true&&(eqI ((aj ys (n:Int) (ag .page)).data.length:Int) 256&&_)))&&_),())
     cases eqI ((aj ys (n:Int) (ag .page)).data.length:Int) 256
     ·simp[aR]
     ·rw[Bool.not_true,ap]
      by_cases hp:0<(n:Int)
      ·rw[ah (gY hp),gz (by unfold I64;omega),ah (cu (by omega) (by omega)),tI]
       show _=some (_&&((true&&(true&&(true&&(!decide (0<(n:Int))||ltI (aj ys ((n:Int)-1) (ag .page)).base (aj ys (n:Int) (ag .page)).base))))&&_),())
       rw[show decide (0<(n:Int))=true from decide_eq_true hp]
       cases ltI (aj ys ((n:Int)-1) (ag .page)).base (aj ys (n:Int) (ag .page)).base
       ·simp[aR]
       ·simp[ap]
      ·rw[aw (gA hp),show decide (0<(n:Int))=false from decide_eq_false hp];simp
  ·rw[aw (gA hi),qX (by omega)]
   simp[leI]
 ·exact⟨rfl,rfl,rfl,by simp,by simp⟩
 ·simpa using hF
 ·simp
end Go.Den.G
namespace Go.Den.G
open Go.Den
def leN:List UInt8→Nat
 |[]=>0
 |b::r=>b.toNat+256*leN r
theorem zz:∀(t:List UInt8),leN t<256^t.length
 |[]=>by simp[leN]
 |b::r=>by
  have:=zz r
  have hb:b.toNat<256:=b.toNat_lt
  simp only[leN,List.length_cons,Nat.pow_succ]
  omega
theorem wu:∀(t:List UInt8) (k:Nat) (h:k<t.length),leN (t.take (k+1))=leN (t.take k)+t[k].toNat*256^k
 |[],k,h=>by simp at h
 |b::r,0,_=>by simp[leN]
 |b::r,k+1,h=>by
  have hk:k<r.length:=by simpa using h
  have:=wu r k hk
  simp only[List.take_succ_cons,leN,List.getElem_cons_succ,Nat.pow_succ]at this⊢
  rw[this,Nat.mul_add]
  have:256*(r[k].toNat*256^k)=r[k].toNat*(256^k*256):=by rw[Nat.mul_left_comm,Nat.mul_comm 256 (256^k)]
  omega
theorem BZ (t:List UInt8)(k:Nat)(h:k<t.length):leN (t.drop k)=t[k].toNat+256*leN (t.drop (k+1)):=by
 rw[List.drop_eq_getElem_cons h,leN]
theorem qx {t:List UInt8}{k:Nat}(h:k<t.length):fW t (k:Int)=(t[k].toNat:Int):=by simp[fW,h]
theorem AC {n:Int}(h0:0≤n)(h:n<18446744073709551616):IntKind.wrap .u64 n=n:=by
 simp only[IntKind.wrap,IntKind.bits,IntKind.signed,Bool.false_and]
 simp only[show(2:Int)^64=18446744073709551616 from rfl]
 simp only[Bool.false_eq_true,if_false]
 exact Int.emod_eq_of_lt h0 h
theorem xE (t:List UInt8)(h8:t.length≤8):eW ((t,(0,((t.length:Int),()))),())=some (IntKind.wrap .i64 (leN t),()):=by
 unfold eW
 simp only[ce]
 rw[gz (by unfold I64;omega)]
 refine(fo (fun x=>x.1.1=t∧x.1.2.1=0∧ -1≤x.1.2.2.2.1∧x.1.2.2.2.1<(t.length:Int)∧x.1.2.2.1=(leN (t.drop (x.1.2.2.2.1+1).toNat):Int)) (fun x=>(x.1.2.2.2.1+1).toNat) (fun _=>some (IntKind.wrap .i64 (leN t),())) ?_ F _ ?_ ?_)
 ·rintro⟨⟨s,z,v,i,_⟩,_⟩ rec ⟨rfl,hz,h0,h1,h2⟩ hrec
  dsimp only at hz h0 h1 h2 hrec h8⊢
  subst hz
  by_cases hi:0≤i
  ·obtain⟨n,rfl⟩:=Int.eq_ofNat_of_zero_le hi
   have hn:n<s.length:=by omega
   have hlt:=zz (s.drop (n+1))
   have hb:s[n].toNat<256:=s[n].toNat_lt
   have hpow:256^(s.drop (n+1)).length≤256^7:=Nat.pow_le_pow_right (by decide) (by rw[List.length_drop];omega)
   rw[show(256:Nat)^7=72057594037927936 from rfl]at hpow
   rw[show((n:Int)+1).toNat=n+1 by omega]at h2
   rw[ah (fv hi),eg (by unfold I64;omega),show(0:Int)+n=n by omega,ah (cu hi (by omega)),qx hn]
   rw[hrec _ ⟨rfl,rfl,?_,?_,?_⟩ ?_]
   ·dsimp only;rw[gz (by unfold I64;omega)];omega
   ·dsimp only;rw[gz (by unfold I64;omega)];omega
   ·dsimp only
    rw[gz (by unfold I64;omega),show((n:Int)-1+1).toNat=n by omega,BZ s n hn,h2]
    unfold ax bf ak
    rw[AC (n:=256*(leN (s.drop (n+1)):Int)) (by omega) (by omega),AC (n:=(s[n].toNat:Int)) (by omega) (by omega),AC (by omega) (by omega)]
    omega
   ·dsimp only;rw[gz (by unfold I64;omega)];omega
  ·obtain rfl:i= -1:=by omega
   rw[aw (jy hi),h2]
   rfl
 ·refine⟨rfl,rfl,by dsimp only;omega,by dsimp only;omega,?_⟩
  dsimp only
  rw[show((t.length:Int)-1+1).toNat=t.length by omega,List.drop_length]
  rfl
 ·simp[F];omega
theorem xO (x:Int):BitVec.ofInt 64 (IntKind.wrap .i64 x)=BitVec.ofInt 64 x:=by
 apply BitVec.eq_of_toNat_eq
 simp only[BitVec.toNat_ofInt,IntKind.wrap,IntKind.bits,IntKind.signed,Bool.true_and,decide_eq_true_eq,ge_iff_le]
 simp only[show(2:Int)^64=18446744073709551616 from rfl,show(2:Int)^(64-1)=9223372036854775808 from rfl,show((2^64:Nat):Int)=18446744073709551616 from rfl]
 split<;>omega
theorem BH (a c k:Nat)(ha:a<2^k)(hc:a+c*2^k<18446744073709551616):ior .i64 (a:Int) (IntKind.wrap .i64 ((c:Int)*2^k))=IntKind.wrap .i64 ((a+c*2^k:Nat):Int):=by
 unfold ior
 rw[show IntKind.i64.bits=64 from rfl,xO]
 congr 1
 rw[BitVec.toNat_or]
 have e1:(BitVec.ofInt 64 (a:Int)).toNat=a:=by
  rw[BitVec.toNat_ofInt];simp only[show((2^64:Nat):Int)=18446744073709551616 from rfl];omega
 have e2:(BitVec.ofInt 64 ((c:Int)*2^k)).toNat=c*2^k:=by
  rw[BitVec.toNat_ofInt];simp only[show((2^64:Nat):Int)=18446744073709551616 from rfl]
  rw[show((c:Int)*2^k)=((c*2^k:Nat):Int)by simp]
  omega
 rw[e1,e2,Nat.or_comm,←Nat.shiftLeft_eq,←Nat.shiftLeft_add_eq_or_of_lt ha,Nat.shiftLeft_eq,Nat.add_comm]
theorem take_eq (t:List UInt8)(h8:t.length≤8):gU ((t,()),())=some (IntKind.wrap .i64 (leN t),()):=by
 unfold gU
 simp only[ce]
 refine(fo (fun x=>x.1.1=t∧x.1.2.2.1=(t.length:Int)∧0≤x.1.2.2.2.1∧x.1.2.2.2.1≤(t.length:Int)∧x.1.2.1=IntKind.wrap .i64 (leN (t.take x.1.2.2.2.1.toNat))) (fun x=>t.length-x.1.2.2.2.1.toNat) (fun _=>some (IntKind.wrap .i64 (leN t),())) ?_ F _ ?_ ?_)
 ·rintro⟨⟨s,acc,len,i,_⟩,_⟩ rec ⟨rfl,hz,h0,h1,h2⟩ hrec
  dsimp only at hz h0 h1 h2 hrec h8⊢
  subst hz
  by_cases hi:i<s.length
  ·obtain⟨n,rfl⟩:=Int.eq_ofNat_of_zero_le h0
   have hn:n<s.length:=by omega
   have hlt:=zz (s.take n)
   rw[List.length_take,Nat.min_eq_left (by omega)]at hlt
   have hb:s[n].toNat<256:=s[n].toNat_lt
   have hpow:256^n≤256^7:=Nat.pow_le_pow_right (by decide) (by omega)
   rw[show(256:Nat)^7=72057594037927936 from rfl]at hpow
   have h256:(256:Nat)^n=2^(8*n):=by rw[Nat.pow_mul]
   rw[Int.toNat_natCast]at h2
   rw[ah (gY hi),ah (cu h0 hi),wz (by unfold I64;omega),ah (fv (by omega)),qx hn,wX (by unfold I64;omega)]
   rw[hrec _ ⟨rfl,rfl,?_,?_,?_⟩ ?_]
   ·dsimp only;rw[eg (by unfold I64;omega)];omega
   ·dsimp only;rw[eg (by unfold I64;omega)];omega
   ·dsimp only
    rw[eg (by unfold I64;omega),show((n:Int)+1).toNat=n+1 by omega,wu s n hn,h2,dm (n:=(leN (s.take n):Int)) (by unfold I64;omega)]
    unfold cH
    rw[show min (8*(n:Int)).toNat IntKind.i64.bits=8*n by rw[show IntKind.i64.bits=64 from rfl];omega]
    have hmul:s[n].toNat*256^n≤255*256^n:=Nat.mul_le_mul_right _ (by omega)
    have:=BH (leN (s.take n)) s[n].toNat (8*n) (by rw[←h256];exact hlt) (by rw[←h256];omega)
    rw[this,h256]
   ·dsimp only;rw[eg (by unfold I64;omega)];omega
  ·obtain rfl:i=s.length:=by omega
   rw[aw (gA hi),h2,Int.toNat_natCast,List.take_length]
 ·refine⟨rfl,rfl,by dsimp only;omega,by dsimp only;omega,?_⟩
  rfl
 ·simp[F];omega
end Go.Den.G
namespace Go.Den.G
open Go.Den
structure MemR (m:List Page):Prop where
 len:m.length≤32
 pg:∀x∈m,0≤x.base∧x.base≤65280∧x.base%256=0∧x.data.length=256
theorem qJ {b:Int}(h:jl b=true):0≤b∧b≤65280∧b%256=0:=by
 simp only[jl,inB,Bool.and_eq_true,decide_eq_true_eq,eqI]at h
 obtain⟨⟨h0,h1⟩,h2⟩:=h
 have h2:b.tmod 256=0:=h2
 rw[Int.tmod_eq_emod_of_nonneg h0]at h2
 omega
theorem zQ {m:List Page}(h:pk m=true):MemR m:=by
 simp only[pk,Bool.and_eq_true,decide_eq_true_eq,jN,List.all_eq_true]at h
 refine⟨by omega,fun x hx=>?_⟩
 obtain⟨i,hi,rfl⟩:=List.getElem_of_mem hx
 have:=h.2 i (by rw[List.mem_range'];exact⟨i,by omega,by omega⟩)
 unfold good pg at this
 rw[gK hi]at this
 simp only[Bool.and_eq_true,eqI,decide_eq_true_eq]at this
 obtain⟨h1,_,h3,_⟩:=this
 obtain⟨a,b,c⟩:=qJ h1
 exact⟨a,b,c,by omega⟩
def eG (p:Page→Bool):List Page→Nat→Int
 |[],_=> -1
 |x::r,i=>if p x=true then(i:Int)else eG p r (i+1)
theorem j5 (p:Page→Bool):∀(m:List Page) (i:Nat),(eG p m i= -1∧∀x∈m,p x=false)∨∃j,∃h:j<m.length,eG p m i=((i+j:Nat):Int)∧p m[j]=true
 |[],_=> .inl ⟨rfl,by simp⟩
 |x::r,i=>by
  simp only[eG]
  cases hx:p x with
  |true=>exact .inr ⟨0,by simp,by simp,by simpa using hx⟩
  |false=>
   rcases j5 p r (i+1)with ⟨h1,h2⟩|⟨j,h,h1,h2⟩
   ·refine .inl ⟨by simpa using h1,fun y hy=>?_⟩
    rcases List.mem_cons.1 hy with rfl|hy
    ·exact hx
    ·exact h2 y hy
   ·refine .inr ⟨j+1,by simp;omega,?_,by simpa using h2⟩
    rw[if_neg (by simp),h1]
    congr 1;omega
theorem rB {p:Page→Bool}{m:List Page}{i:Nat}(h:∀x∈m,p x=false):eG p m i= -1:=by
 rcases j5 p m i with h1|⟨j,hj,_,h2⟩
 ·exact h1.1
 ·rw[h _ (List.getElem_mem hj)]at h2;cases h2
def jj (a:Int)(x:Page):Bool:=decide (x.base≤a)&&decide (a-x.base<256)
def fnd (m:List Page)(a:Int):Int:=eG (jj a) m 0
theorem li (m:List Page)(hm:MemR m)(a:Int)(ha:I64 a):cj (((m,()),(a,())),())=some (fnd m a,()):=by
 unfold cj
 simp only[ce]
 refine(fo (fun x=>x.2.1.1=m∧x.1.1=a∧0≤x.1.2.1∧x.1.2.1≤(m.length:Int)) (fun x=>m.length-x.1.2.1.toNat) (fun x=>some (eG (jj a) (m.drop x.1.2.1.toNat) x.1.2.1.toNat,())) ?_ F _ ?_ ?_).trans ?_
 ·rintro⟨⟨b,i,_⟩,⟨xs,_⟩,_⟩ rec ⟨h2,h3,h0,h1⟩ hrec
  dsimp only at h0 h1 h2 h3 hrec⊢
  subst h2
  subst h3
  have hlen:=hm.len
  by_cases hi:i<xs.length
  ·obtain⟨n,rfl⟩:=Int.eq_ofNat_of_zero_le h0
   have hn:n<xs.length:=by omega
   rw[ah (gY hi),ah (cu h0 hi),gK hn,Int.toNat_natCast,List.drop_eq_getElem_cons hn,eG]
   obtain⟨p0,p1,_,_⟩:=hm.pg _ (List.getElem_mem hn)
   have hst:rec ((b,(ax IntKind.i64 (n:Int) 1,())),((xs,()),()))=some (eG (jj b) (xs.drop (n+1)) (n+1),()):=by
    rw[eg (by unfold I64;omega)]
    rw[hrec _ ⟨rfl,rfl,by dsimp only;omega,by dsimp only;omega⟩ (by dsimp only;omega)]
    rfl
   rw[hst]
   unfold I64 at ha
   by_cases hb:xs[n].base≤b
   ·rw[ah (fv hb),ah (cu h0 hi),aa,gz (by unfold I64;omega)]
    by_cases hc:b-xs[n].base<256
    ·rw[ah (gY hc),if_pos (by simp[jj,hb,hc])]
    ·rw[aw (gA hc),if_neg (by simp[jj,hc])]
   ·rw[aw (jy hb),aa,ap,if_neg (by simp[jj,hb])]
  ·rw[aw (gA hi),List.drop_eq_nil_of_le (by omega)];rfl
 ·exact⟨rfl,rfl,by simp,by simp⟩
 ·have:=hm.len;simp[F];omega
 ·rfl
theorem tA (m:List Page)(hm:MemR m)(a:Int)(h0:0≤a)(h1:a≤65535):aJ ((m,()),((a,()),()))=some (fnd m a,((a,()),())):=by
 unfold aJ cA
 simp only[ce]
 refine(fo (fun x=>x.1.1=m∧x.1.2.1=(m.length:Int)∧x.2.1.1=a∧0≤x.1.2.2.1∧x.1.2.2.1≤(m.length:Int)) (fun x=>m.length-x.1.2.2.1.toNat) (fun x=>some (eG (jj a) (m.drop x.1.2.2.1.toNat) x.1.2.2.1.toNat,((a,()),()))) ?_ F _ ?_ ?_).trans ?_
 ·rintro⟨⟨xs,len,i,_⟩,⟨b,_⟩,_⟩ rec ⟨h2,h3,h4,h5,h6⟩ hrec
  dsimp only at h5 h6 h2 h3 h4 hrec⊢
  subst h2
  subst h3
  subst h4
  have hlen:=hm.len
  by_cases hi:i<xs.length
  ·obtain⟨n,rfl⟩:=Int.eq_ofNat_of_zero_le h5
   have hn:n<xs.length:=by omega
   rw[ah (gY hi),ah (cu h5 hi),aa,gK hn,Int.toNat_natCast,List.drop_eq_getElem_cons hn,eG]
   dsimp only
   obtain⟨p0,p1,p2,_⟩:=hm.pg _ (List.getElem_mem hn)
   have hst:rec ((xs,((xs.length:Int),(ax IntKind.i64 (n:Int) 1,()))),((b,()),()))=some (eG (jj b) (xs.drop (n+1)) (n+1),((b,()),())):=by
    rw[eg (by unfold I64;omega)]
    rw[hrec _ ⟨rfl,rfl,rfl,by dsimp only;omega,by dsimp only;omega⟩ (by dsimp only;omega)]
    rfl
   rw[hst,show io b 256=b%256 from Int.tmod_eq_emod_of_nonneg h0,gz (by unfold I64;omega)]
   by_cases hc:xs[n].base=b-b%256
   ·rw[ah (bn hc),if_pos (by simp only[jj,Bool.and_eq_true,decide_eq_true_eq];omega)]
   ·rw[aw (aG hc),if_neg (by simp only[jj,Bool.and_eq_true,decide_eq_true_eq];omega)]
  ·rw[aw (gA hi),List.drop_eq_nil_of_le (by omega)];rfl
 ·exact⟨rfl,rfl,rfl,by simp,by simp⟩
 ·have:=hm.len;simp[F];omega
 ·rfl
theorem rE {m:List Page}(hm:MemR m){a:Int}(h:¬(0≤a∧a≤65535)):fnd m a= -1:=by
 refine rB fun x hx=>?_
 obtain⟨p0,p1,p2,_⟩:=hm.pg x hx
 simp only[jj,Bool.and_eq_false_iff,decide_eq_false_iff_not]
 omega
theorem pE (m:List Page)(hm:MemR m)(a:Int):bh (((m,()),(a,())),())=some (fnd m a,()):=by
 unfold bh
 rw[kT,aa]
 dsimp only
 by_cases h:0≤a∧a≤65535
 ·rw[aw (by simp[aX,inB,h.1,h.2]),tA m hm a h.1 h.2,aa]
 ·rw[ah (by simp only[aX,inB,Bool.not_eq_true',Bool.and_eq_false_iff,decide_eq_false_iff_not];omega),rE hm h]
theorem mu {m:List Page}(hm:MemR m)(a:Int):fnd m a= -1∨∃j,∃h:j<m.length,fnd m a=(j:Int)∧m[j].base≤a∧a-m[j].base<256∧0≤a∧a≤65535∧a-m[j].base=a%256∧m[j].data.length=256:=by
 rcases j5 (jj a) m 0 with ⟨h,_⟩|⟨j,hj,h1,h2⟩
 ·exact .inl h
 ·obtain⟨p0,p1,p2,p3⟩:=hm.pg _ (List.getElem_mem hj)
  simp only[jj,Bool.and_eq_true,decide_eq_true_eq]at h2
  exact .inr ⟨j,hj,by rw[Nat.zero_add]at h1;exact h1,h2.1,h2.2,by omega,by omega,by omega,p3⟩
end Go.Den.G
namespace Go.Den.G
open Go.Den
def dO (m:List Page)(a perm:Int):Nat→Int→Int
 |0,_=>0
 |j+1,k=>if fnd m (a+k)<0 then 13 else if dl .i64 (aj m (fnd m (a+k)) (ag .page)).perm perm=0 then 14 else dO m a perm j (k+1)
theorem qD {m:List Page}(hm:MemR m){a perm:Int}(h:¬(0≤a∧a≤65535))(j:Nat):dO m a perm (j+1) 0=13:=by
 rw[dO,Int.add_zero,rE hm h];rfl
theorem rD {m:List Page}(hm:MemR m){a:Int}(h:¬fnd m a<0):inR (fnd m a) (m.length:Int)=true:=by
 rcases mu hm a with h1|⟨j,hj,h1,_⟩
 ·rw[h1]at h;exact absurd (by decide) h
 ·rw[h1];exact cu (by omega) (by omega)
theorem mP (m:List Page)(hm:MemR m)(a perm:Int)(n:Nat)(hn:1≤n)(hn8:n≤64)(ha:I64 a):cN (((m,()),(a,((n:Int),(perm,())))),())=some (dO m a perm n 0,()):=by
 unfold cN
 simp only[ce]
 refine(fo (fun x=>x.2.1.1=m∧x.1.1=a∧x.1.2.1=(n:Int)∧x.1.2.2.1=perm∧0≤x.1.2.2.2.1∧x.1.2.2.2.1≤(n:Int)∧(x.1.2.2.2.1=0∨(0≤a∧a≤65535))) (fun x=>n-x.1.2.2.2.1.toNat) (fun x=>some (dO m a perm (n-x.1.2.2.2.1.toNat) x.1.2.2.2.1,())) ?_ F _ ?_ ?_).trans ?_
 ·rintro⟨⟨b,l,p,i,_⟩,⟨xs,_⟩,_⟩ rec ⟨h2,h3,h4,h5,h0,h1,h6⟩ hrec
  dsimp only at h0 h1 h2 h3 h4 h5 h6 hrec⊢
  subst h2 h3 h4 h5
  by_cases hi:i<(n:Int)
  ·obtain⟨k,rfl⟩:=Int.eq_ofNat_of_zero_le h0
   rw[ah (gY hi),gz (by unfold I64;omega),nZ,aa]
   dsimp only
   have hst:n-((k:Int)).toNat=(n-(k+1))+1:=by omega
   rw[hst]
   by_cases hr:0≤b∧b≤65535
   ·rw[aw (by simp[aX,inB];omega),eg (by unfold I64;omega),li xs hm _ (by unfold I64;omega),aa,dO]
    dsimp only
    by_cases hf:fnd xs (b+k)<0
    ·rw[ah (gY hf),if_pos hf]
    ·rw[aw (gA hf),if_neg hf,ah (rD hm hf)]
     by_cases hp:dl .i64 (aj xs (fnd xs (b+k)) (ag .page)).perm p=0
     ·rw[ah (bn hp),if_pos hp]
     ·rw[aw (aG hp),if_neg hp,eg (by unfold I64;omega)]
      rw[hrec _ ⟨rfl,rfl,rfl,rfl,by dsimp only;omega,by dsimp only;omega,.inr hr⟩ (by dsimp only;omega)]
      dsimp only
      rw[show n-((k:Int)+1).toNat=n-(k+1)by omega]
   ·have hk:k=0:=by omega
    subst hk
    rw[show((0:Nat):Int)=0 from rfl,qD hm hr]
    by_cases hin:inB b (0-(n:Int)) 65535=true
    ·rw[aw (by rw[hin];rfl),eg (by unfold I64 at *;omega),li xs hm _ (by rw[Int.add_zero];exact ha),aa,Int.add_zero,rE hm hr]
     rfl
    ·rw[ah (by rw[Bool.not_eq_true]at hin;rw[hin];rfl)]
  ·have:i=n:=by omega
   subst this
   rw[aw (gA hi),Int.toNat_natCast,Nat.sub_self];rfl
 ·exact⟨rfl,rfl,rfl,rfl,by simp,by simp,.inl rfl⟩
 ·simp[F];omega
 ·rfl
theorem mz (m:List Page)(hm:MemR m)(a perm:Int)(n:Nat)(hn8:n≤64)(ha:I64 a)(hp0:perm≠0)(hn:1≤n):bN (((m,()),(a,((n:Int),(perm,())))),())=some (dO m a perm n 0,()):=by
 unfold bN
 simp only[ce]
 refine(fo (fun x=>x.2.1.1=m∧x.1.1=a∧x.1.2.2.1=(n:Int)∧x.1.2.1=perm∧0≤x.1.2.2.2.1∧x.1.2.2.2.1≤(n:Int)∧(x.1.2.2.2.1=0∨(0≤a∧a≤65535))) (fun x=>n-x.1.2.2.2.1.toNat) (fun x=>some (dO m a perm (n-x.1.2.2.2.1.toNat) x.1.2.2.2.1,())) ?_ F _ ?_ ?_).trans ?_
 ·rintro⟨⟨b,p,l,i,_⟩,⟨xs,_⟩,_⟩ rec ⟨h2,h3,h4,h5,h0,h1,h6⟩ hrec
  dsimp only at h0 h1 h2 h3 h4 h5 h6 hrec⊢
  subst h2 h3 h4 h5
  by_cases hi:i<(n:Int)
  ·obtain⟨k,rfl⟩:=Int.eq_ofNat_of_zero_le h0
   rw[ah (gY hi),pE xs hm,aa]
   dsimp only
   have hst:n-((k:Int)).toNat=(n-(k+1))+1:=by omega
   rw[hst]
   by_cases hr:0≤b∧b≤65535
   ·rw[eg (by unfold I64;omega),dO]
    by_cases hf:fnd xs (b+k)<0
    ·rw[ah (gY hf),if_pos hf]
    ·rw[aw (gA hf),if_neg hf,ah (rD hm hf),ah (by rw[aG hp0];rfl),aa]
     by_cases hp:dl .i64 (aj xs (fnd xs (b+k)) (ag .page)).perm p=0
     ·rw[ah (bn hp),if_pos hp]
     ·rw[aw (aG hp),if_neg hp,eg (by unfold I64;omega)]
      rw[hrec _ ⟨rfl,rfl,rfl,rfl,by dsimp only;omega,by dsimp only;omega,.inr hr⟩ (by dsimp only;omega)]
      dsimp only
      rw[show n-((k:Int)+1).toNat=n-(k+1)by omega]
   ·have hk:k=0:=by omega
    subst hk
    rw[show((0:Nat):Int)=0 from rfl,qD hm hr,eg (by unfold I64 at *;omega),Int.add_zero,rE hm hr]
    rfl
  ·have:i=n:=by omega
   subst this
   rw[aw (gA hi),Int.toNat_natCast,Nat.sub_self];rfl
 ·exact⟨rfl,rfl,rfl,rfl,by simp,by simp,.inl rfl⟩
 ·simp[F];omega
 ·rfl
theorem mr {m:List Page}(hm:MemR m){a perm:Int}:∀(j k0:Nat),dO m a perm j k0=0→∀k,k0≤k→k<k0+j→¬fnd m (a+(k:Nat))<0
 |0,k0,_,k,h1,h2=>by omega
 |j+1,k0,h,k,h1,h2=>by
  rw[dO]at h
  split at h
  ·cases h
  ·rename_i hf
   split at h
   ·cases h
   ·by_cases hk:k=k0
    ·subst hk;exact hf
    ·exact mr hm j (k0+1) (by exact_mod_cast h) k (by omega) (by omega)
def mZ (m:List Page)(a:Int):Int:=fW (aj m (fnd m a) (ag .page)).data (a%256)
theorem get_eq (m:List Page)(hm:MemR m)(a:Int)(n:Nat)(hn8:n≤8)(ha:I64 a)(hok:∀k,k<n→¬fnd m (a+(k:Nat))<0):fF (((m,()),(a,((n:Int),()))),())=some (jB ((List.range n).map fun k=>mZ m (a+(k:Nat))),()):=by
 unfold fF
 simp only[ce]
 refine(fo (fun x=>x.2.1.1=m∧x.1.1=a∧x.1.2.1=(n:Int)∧0≤x.1.2.2.1∧x.1.2.2.1≤(n:Int)∧x.2.2.1=(List.range x.1.2.2.1.toNat).map fun k=>mZ m (a+(k:Nat))) (fun x=>n-x.1.2.2.1.toNat) (fun _=>some (jB ((List.range n).map fun k=>mZ m (a+(k:Nat))),())) ?_ F _ ?_ ?_)
 ·rintro⟨⟨b,l,i,_⟩,⟨xs,_⟩,out,_⟩ rec ⟨h2,h3,h4,h0,h1,h5⟩ hrec
  dsimp only at h0 h1 h2 h3 h4 h5 hrec⊢
  subst h2 h3 h4
  by_cases hi:i<(n:Int)
  ·obtain⟨k,rfl⟩:=Int.eq_ofNat_of_zero_le h0
   rw[Int.toNat_natCast]at h5
   have hk:=hok k (by omega)
   rcases mu hm (b+k)with h7|⟨j,hj,h7,h8,h9,h10,h11,h12,h13⟩
   ·rw[h7]at hk;exact absurd (by decide) hk
   ·have hb:I64 (b+k):=by unfold I64;omega
    rw[ah (gY hi),eg hb,li xs hm _ hb,aa]
    dsimp only
    rw[ah (rD hm hk),h7,gK hj,gz (by unfold I64;omega),ah (cu (by omega) (by omega)),h12]
    have hbyte:fW xs[j].data ((b+(k:Int))%256)=mZ xs (b+k):=by rw[mZ,h7,gK hj]
    rw[hbyte,ah (by rw[h5];simp[eP,lim];omega),eg (by unfold I64;omega)]
    refine hrec _ ⟨rfl,rfl,rfl,by dsimp only;omega,by dsimp only;omega,?_⟩ (by dsimp only;omega)
    dsimp only
    rw[show((k:Int)+1).toNat=k+1 by omega,List.range_succ,List.map_append,h5]
    rfl
  ·have:i=n:=by omega
   subst this
   rw[aw (gA hi),h5,Int.toNat_natCast]
 ·exact⟨rfl,rfl,rfl,by simp,by simp,rfl⟩
 ·simp[F];omega
theorem Bf (m:List Page)(hm:MemR m)(a:Int)(n:Nat)(hn8:n≤64)(ha:I64 a)(hok:∀k,k<n→¬fnd m (a+(k:Nat))<0):cC (((m,()),(a,((n:Int),()))),())=some (jB ((List.range n).map fun k=>mZ m (a+(k:Nat))),()):=by
 unfold cC
 simp only[ce]
 rw[ah (oP (by omega) (Int.le_refl _)),ah (u9 (by omega))]
 refine(fo (fun x=>x.2.1.1=m∧x.1.1=a∧x.1.2.1=(n:Int)∧0≤x.1.2.2.1∧x.1.2.2.1≤(n:Int)∧x.2.2.1=((List.range x.1.2.2.1.toNat).map fun k=>mZ m (a+(k:Nat)))++List.replicate (n-x.1.2.2.1.toNat) 0) (fun x=>n-x.1.2.2.1.toNat) (fun _=>some (jB ((List.range n).map fun k=>mZ m (a+(k:Nat))),())) ?_ F _ ?_ ?_)
 ·rintro⟨⟨b,l,i,_⟩,⟨xs,_⟩,out,_⟩ rec ⟨h2,h3,h4,h0,h1,h5⟩ hrec
  dsimp only at h0 h1 h2 h3 h4 h5 hrec⊢
  subst h2 h3 h4
  by_cases hi:i<(n:Int)
  ·obtain⟨k,rfl⟩:=Int.eq_ofNat_of_zero_le h0
   rw[Int.toNat_natCast]at h5
   have hk:=hok k (by omega)
   rcases mu hm (b+k)with h7|⟨j,hj,h7,h8,h9,h10,h11,h12,h13⟩
   ·rw[h7]at hk;exact absurd (by decide) hk
   ·have hb:I64 (b+k):=by unfold I64;omega
    have hol:out.length=n:=by rw[h5];simp;omega
    rw[ah (gY hi),eg hb,pE xs hm,aa]
    dsimp only
    rw[ah (rD hm hk),show io (b+(k:Int)) 256=(b+k)%256 from Int.tmod_eq_emod_of_nonneg h10,h7,gK hj,ah (cu (by omega) (by omega))]
    have hbyte:fW xs[j].data ((b+(k:Int))%256)=mZ xs (b+k):=by rw[mZ,h7,gK hj]
    rw[hbyte,ah (cu h0 (by omega)),eg (by unfold I64;omega)]
    refine hrec _ ⟨rfl,rfl,rfl,by dsimp only;omega,by dsimp only;omega,?_⟩ (by dsimp only;omega)
    dsimp only
    rw[show((k:Int)+1).toNat=k+1 by omega,List.range_succ,List.map_append,h5]
    unfold aN
    rw[Int.toNat_natCast,List.set_append_right _ _ (by simp),List.length_map,List.length_range,Nat.sub_self,show n-k=(n-(k+1))+1 by omega,List.replicate_succ]
    simp
  ·have:i=n:=by omega
   subst this
   rw[aw (gA hi),h5,Int.toNat_natCast,Nat.sub_self]
   simp
 ·refine⟨rfl,rfl,by simp[sC],by simp,by simp,?_⟩
  simp[sC,ag]
 ·simp[F];omega
end Go.Den.G
namespace Go.Den.G
open Go.Den
def bX (n:Int):Bool:=eqI n 1||(eqI n 2||(eqI n 4||eqI n 8))
theorem BP {n:Int}(h:bX n=true):∃k:Nat,n=(k:Int)∧1≤k∧k≤8:=by
 simp only[bX,eqI,Bool.or_eq_true,decide_eq_true_eq]at h
 exact⟨n.toNat,by omega,by omega,by omega⟩
theorem uy (xs:List Int):(jB xs).length=xs.length:=by simp[jB]
def pf (m:List Page)(a:Int)(n:Nat):Int×Int:=
 if dO m a 1 n 0=0 then(IntKind.wrap .i64 (leN (jB ((List.range n).map fun k=>mZ m (a+(k:Nat))))),0)else(0,dO m a 1 n 0)
theorem zI {m:List Page}(hm:MemR m){a:Int}{n:Nat}(h:dO m a 1 n 0=0):∀k,k<n→¬fnd m (a+(k:Nat))<0:=fun k hk=>
 mr hm n 0 h k (Nat.zero_le _) (by omega)
theorem uu (m:List Page)(hm:MemR m)(a:Int)(n:Nat)(hn:1≤n)(hn8:n≤8)(ha:I64 a):eY (((m,()),(a,((n:Int),()))),())=some (((pf m a n).1,((pf m a n).2,())),()):=by
 unfold eY pf
 dsimp only
 rw[mP m hm a 1 n hn (by omega) ha,aa]
 by_cases h:dO m a 1 n 0=0
 ·rw[aw (by rw[h];rfl),get_eq m hm a n hn8 ha (zI hm h),aa,if_pos h]
  dsimp only
  have hl:(jB ((List.range n).map fun k=>mZ m (a+(k:Nat)))).length=n:=by rw[uy];simp
  have:=xE (jB ((List.range n).map fun k=>mZ m (a+(k:Nat)))) (by omega)
  rw[hl]at this
  rw[this,aa]
 ·rw[ah (by rw[aG h];rfl),if_neg h]
theorem tz (m:List Page)(hm:MemR m)(a:Int)(n:Nat)(hn:1≤n)(hn8:n≤8)(ha:I64 a):cO (((m,()),(a,((n:Int),()))),())=some (((pf m a n).1,((pf m a n).2,())),()):=by
 unfold cO pf
 dsimp only
 rw[mz m hm a 1 n (by omega) ha (by decide) hn,aa]
 by_cases h:dO m a 1 n 0=0
 ·rw[aw (by rw[h];rfl),Bf m hm a n (by omega) ha (zI hm h),aa,if_pos h]
  dsimp only
  rw[take_eq _ (by rw[uy];simpa using hn8),aa]
 ·rw[ah (by rw[aG h];rfl),if_neg h]
theorem yP {x:Page}(h:uD .page x):I64 x.base∧I64 x.perm∧x.data.length≤maxLen:=by
 obtain⟨⟨n,e1,w1⟩,⟨k,e2,w2⟩,⟨s,e3,w3⟩,_⟩:=h
 cases e1;cases e2;cases e3
 exact⟨DP w1,DP w2,w3⟩
end Go.Den.G
namespace Go.Den.G
open Go.Den
def pgN (m:List Page)(i:Nat):Page:=m.getD i (ag .page)
theorem wH (m:List Page)(i:Nat):pg m (i:Int)=pgN m i:=by simp[pg,pgN,aj]
theorem r7 {m:List Page}{i:Nat}(h:i<m.length):pgN m i=m[i]:=by simp[pgN,h]
structure MemT (m:List Page):Prop where
 len:m.length≤32
 pg:∀i,i<m.length→0≤(pgN m i).base∧(pgN m i).base≤65280∧(pgN m i).base%256=0∧0≤(pgN m i).perm∧(pgN m i).perm≤7∧(pgN m i).data.length=256
 ord:∀i,i+1<m.length→(pgN m i).base<(pgN m (i+1)).base
theorem BJ {b:Int}(h0:0≤b)(h1:b≤65280)(h2:b%256=0):jl b=true:=by
 simp only[jl,inB,Bool.and_eq_true,decide_eq_true_eq,eqI]
 refine⟨⟨h0,by omega⟩,?_⟩
 show b.tmod 256=0
 rw[Int.tmod_eq_emod_of_nonneg h0];exact h2
theorem memOK_t {m:List Page}(h:pk m=true):MemT m:=by
 have hr:=zQ h
 simp only[pk,Bool.and_eq_true,decide_eq_true_eq,jN,List.all_eq_true]at h
 have hg:∀i,i<m.length→jl (pgN m i).base=true∧ko (pgN m i).perm=true∧eqI ((pgN m i).data.length:Int) 256=true∧((0<i)→(Go.Den.G.pg m ((i:Int)-1)).base<(pgN m i).base):=by
  intro i hi
  have:=h.2 i (by rw[List.mem_range'];exact⟨i,by omega,by omega⟩)
  unfold good at this
  rw[wH]at this
  simp only[Bool.and_eq_true,Bool.or_eq_true,Bool.not_eq_true',decide_eq_false_iff_not,ww]at this
  obtain⟨h1,h2,h3,h4⟩:=this
  refine⟨h1,h2,h3,fun hp=>?_⟩
  rcases h4 with h4|h4
  ·omega
  ·exact h4
 refine⟨by omega,fun i hi=>?_,fun i hi=>?_⟩
 ·obtain⟨h1,h2,h3,_⟩:=hg i hi
  obtain⟨a,b,c⟩:=qJ h1
  simp only[ko,inB,Bool.and_eq_true,decide_eq_true_eq]at h2
  rw[dj]at h3
  exact⟨a,b,c,h2.1,h2.2,by omega⟩
 ·have:=(hg (i+1) hi).2.2.2 (by omega)
  rw[show((i+1:Nat):Int)-1=(i:Int)by omega,wH]at this
  exact this
theorem MemT.ok {m:List Page}(h:MemT m):pk m=true:=by
 simp only[pk,Bool.and_eq_true,decide_eq_true_eq,jN,List.all_eq_true]
 refine⟨by have:=h.len;omega,fun i hi=>?_⟩
 rw[List.mem_range']at hi
 obtain⟨k,hk,rfl⟩:=hi
 rw[Nat.one_mul,Nat.zero_add]
 have hk:k<m.length:=by omega
 obtain⟨a,b,c,d,e,f⟩:=h.pg k hk
 unfold good
 rw[wH]
 simp only[Bool.and_eq_true,Bool.or_eq_true,Bool.not_eq_true',decide_eq_false_iff_not,ww]
 refine⟨BJ a b c,?_,by rw[dj];omega,?_⟩
 ·simp only[ko,inB,Bool.and_eq_true,decide_eq_true_eq];omega
 ·cases k with
  |zero=>exact .inl (by omega)
  |succ n=>right;rw[show((n+1:Nat):Int)-1=(n:Int)by omega,wH];exact h.ord n hk
theorem MemT.mono {m:List Page}(h:MemT m){i:Nat}:∀ {j:Nat},i<j→j<m.length→(pgN m i).base+256≤(pgN m j).base
 |0,hj,_=>absurd hj (Nat.not_lt_zero _)
 |j+1,hij,hj=>by
  have h1:=h.ord j hj
  have p1:=(h.pg j (by omega)).2.2.1
  have p2:=(h.pg (j+1) hj).2.2.1
  by_cases he:i=j
  ·subst he;omega
  ·have:=h.mono (i:=i) (j:=j) (by omega) (by omega)
   omega
theorem MemT.apart {m:List Page}(h:MemT m){i j:Nat}(hi:i<m.length)(hj:j<m.length)(hne:i≠j):(pgN m i).base+256≤(pgN m j).base∨(pgN m j).base+256≤(pgN m i).base:=by
 by_cases hlt:i<j
 ·exact .inl (h.mono hlt hj)
 ·exact .inr (h.mono (by omega) hi)
theorem MemT.r {m:List Page}(h:MemT m):MemR m:=zQ h.ok
structure Laid (m:List Page)(a:Int)(t:List UInt8)(n:Nat)(x:List Page):Prop where
 len:x.length=m.length
 pg:∀i,i<m.length→(pgN x i).base=(pgN m i).base∧(pgN x i).perm=(pgN m i).perm∧(pgN x i).data.length=256∧
  ∀k:Nat,k<256→(pgN x i).data.getD k 0=if a≤(pgN m i).base+k∧(pgN m i).base+k<a+n then t.getD ((pgN m i).base+k-a).toNat 0 else(pgN m i).data.getD k 0
theorem Laid.start {m:List Page}(h:MemT m)(a:Int)(t:List UInt8):Laid m a t 0 m:=by
 refine⟨rfl,fun i hi=>⟨rfl,rfl,(h.pg i hi).2.2.2.2.2,fun k hk=>?_⟩⟩
 rw[if_neg (by omega)]
theorem Laid.memT {m x:List Page}{a:Int}{t:List UInt8}{n:Nat}(h:MemT m)(hx:Laid m a t n x):MemT x:=by
 refine⟨by rw[hx.len];exact h.len,fun i hi=>?_,fun i hi=>?_⟩
 ·rw[hx.len]at hi
  obtain⟨h1,h2,h3,_⟩:=hx.pg i hi
  obtain⟨a,b,c,d,e,f⟩:=h.pg i hi
  rw[h1,h2];exact⟨a,b,c,d,e,h3⟩
 ·rw[hx.len]at hi
  rw[(hx.pg i (by omega)).1,(hx.pg (i+1) hi).1]
  exact h.ord i hi
theorem CQ {x y:Page}(h1:x.base=y.base)(h2:x.perm=y.perm)(h3:x.data=y.data):x=y:=by
 cases x;cases y;simp only at h1 h2 h3;subst h1 h2 h3;rfl
theorem Laid.unique {m x y:List Page}{a:Int}{t:List UInt8}{n:Nat}(hx:Laid m a t n x)(hy:Laid m a t n y):x=y:=by
 refine List.ext_getElem (by rw[hx.len,hy.len]) fun i h1 h2=>?_
 have hi:i<m.length:=by rw[←hx.len];exact h1
 obtain⟨a1,a2,a3,a4⟩:=hx.pg i hi
 obtain⟨b1,b2,b3,b4⟩:=hy.pg i hi
 rw[r7 h1]at a1 a2 a3 a4
 rw[r7 h2]at b1 b2 b3 b4
 refine CQ (by rw[a1,b1]) (by rw[a2,b2]) (List.ext_getElem (by rw[a3,b3]) fun k k1 k2=>?_)
 have e1:=a4 k (by omega)
 have e2:=b4 k (by omega)
 rw[←e2]at e1
 simpa[k1,k2]using e1
theorem Laid.step {m x:List Page}{a:Int}{t:List UInt8}{j:Nat}(hm:MemT m)(hx:Laid m a t j x){i:Nat}(hi:i<m.length){o c:Nat}
  (ho:(o:Int)=a+j-(pgN m i).base) (hoc:o+c≤256) (hjc:j+c≤t.length):
  Laid m a t (j+c) (x.set i (Page.mk (pgN x i).base (pgN x i).perm ((pgN x i).data.take o++(t.drop j).take c++(pgN x i).data.drop (o+c)))):=by
 refine⟨by rw[List.length_set];exact hx.len,fun i' hi'=>?_⟩
 obtain⟨h1,h2,h3,h4⟩:=hx.pg i' hi'
 by_cases he:i'=i
 ·subst he
  have hset:∀p:Page,pgN (x.set i' p) i'=p:=fun p=>by unfold pgN;rw[List.getD_eq_getElem?_getD,List.getElem?_set_self (by rw[hx.len];exact hi'),Option.getD_some]
  rw[hset]
  have l1:((pgN x i').data.take o).length=o:=by rw[List.length_take];omega
  have l2:((t.drop j).take c).length=c:=by rw[List.length_take,List.length_drop];omega
  refine⟨h1,h2,by simp only[List.length_append,l1,l2,List.length_drop];omega,fun k hk=>?_⟩
  have h4:=h4 k hk
  dsimp only
  rw[List.getD_eq_getElem?_getD]at h4⊢
  by_cases k1:k<o
  ·rw[List.append_assoc,List.getElem?_append_left (by omega),List.getElem?_take,if_pos k1,h4]
   by_cases hc:a≤(pgN m i').base+k∧(pgN m i').base+k<a+j
   ·rw[if_pos hc,if_pos (by omega)]
   ·rw[if_neg hc,if_neg (by omega)]
  ·by_cases k2:k<o+c
   ·rw[List.append_assoc,List.getElem?_append_right (by omega),l1,List.getElem?_append_left (by omega),List.getElem?_take,if_pos (by omega),List.getElem?_drop,if_pos (by omega),List.getD_eq_getElem?_getD]
    rw[show j+(k-o)=((pgN m i').base+k-a).toNat by omega]
   ·rw[List.getElem?_append_right (by rw[List.length_append];omega),List.length_append,l1,l2,List.getElem?_drop,show o+c+(k-(o+c))=k by omega,h4,if_neg (by omega),if_neg (by omega)]
 ·rw[show pgN (x.set i _) i'=pgN x i' from by unfold pgN;rw[List.getD_eq_getElem?_getD,List.getElem?_set_ne (by omega),←List.getD_eq_getElem?_getD]]
  refine⟨h1,h2,h3,fun k hk=>?_⟩
  rw[h4 k hk]
  rcases hm.apart hi' hi he with hp|hp
  ·by_cases hc:a≤(pgN m i').base+k∧(pgN m i').base+k<a+j
   ·rw[if_pos hc,if_pos (by omega)]
   ·rw[if_neg hc,if_neg (by omega)]
  ·by_cases hc:a≤(pgN m i').base+k∧(pgN m i').base+k<a+j
   ·rw[if_pos hc,if_pos (by omega)]
   ·rw[if_neg hc,if_neg (by omega)]
theorem qE {p q:Page→Bool}:∀ {m x:List Page} {i:Nat},x.length=m.length→(∀j,j<m.length→p (pgN m j)=q (pgN x j))→eG p m i=eG q x i
 |[],[],_,_,_=>rfl
 |[],_::_,_,h,_=>by simp at h
 |_::_,[],_,h,_=>by simp at h
 |a::r,b::s,i,hl,h=>by
  have h0:=h 0 (by simp)
  simp only[pgN,List.getD_cons_zero]at h0
  simp only[eG,h0]
  rw[qE (m:=r) (x:=s) (i:=i+1) (by simpa using hl) fun j hj=>by simpa[pgN]using h (j+1) (by simp;omega)]
theorem Laid.fnd {m x:List Page}{a:Int}{t:List UInt8}{n:Nat}(hx:Laid m a t n x)(b:Int):fnd x b=fnd m b:=by
 unfold Go.Den.G.fnd
 exact(qE hx.len fun j hj=>by unfold jj;rw[(hx.pg j hj).1]).symm
end Go.Den.G
namespace Go.Den.G
open Go.Den
theorem wj (m:List Page)(i:Nat):aj m (i:Int) (ag .page)=pgN m i:=by simp[pgN,aj]
theorem z7 (m:List Page)(hm:m.length≤1048576):dA (((m,()),()),())=some ((),(m,())):=by
 unfold dA
 dsimp only
 rw[show eP ([]:List Page) m=true from j6 (by simp;omega),aR];rfl
theorem rp (m:List Page)(hm:m.length≤1048576):bp (((m,()),()),())=some ((),(m,())):=by
 unfold bp cn
 dsimp only
 rw[show eP ([]:List Page) m=true from j6 (by simp;omega),aR]
 cases m with
 |nil=>rw[show eqI (bw ([]:List Page)) 0=true from rfl,aR];rw[show fu ([]:List Page) []=[]from rfl];unfold eqO;rw[if_pos rfl,aa]
 |cons p r=>rw[show eqI (bw (p::r)) 0=false from aG (by simp[ce];omega),ap,aa];rfl
theorem put_ex (m:List Page)(hm:MemT m)(a:Int)(t:List UInt8)(_ha:I64 a)(ht:t.length≤8)(hok:∀k,k<t.length→¬fnd m (a+(k:Nat))<0):
  ∃x,fG (((m,()),(a,(t,()))),())=some ((x,()),())∧Laid m a t t.length x:=by
 unfold fG
 dsimp only
 rw[z7 m (by have:=hm.len;omega),aa]
 refine lh (fun s=>∃j:Nat,j≤t.length∧s.1.1=a+j∧s.1.2.1=t.drop j∧Laid m a t j s.2.2.1) (fun s=>s.1.2.1.length) (fun _ o=>∃x,o=some ((x,()),())∧Laid m a t t.length x) ?_ F _ ⟨0,by simp,by simp,by simp,Laid.start hm a t⟩ (by unfold F;dsimp only;omega)
 rintro⟨⟨b,u,_⟩,_,x,_,_⟩ rec ⟨j,hj,h1,h2,hx⟩ hrec
 dsimp only at h1 h2 hx hrec⊢
 subst h1 h2
 rw[show bw (t.drop j)=((t.length-j:Nat):Int)from by rw[ce,List.length_drop]]
 by_cases hjl:j<t.length
 ·have hmx:=hx.memT hm
  have hf:=hok j hjl
  rw[←hx.fnd]at hf
  rcases mu hmx.r (a+j)with h0|⟨i,hi,h0,hb1,hb2,r0,r1,hb3,hdl⟩
  ·rw[h0]at hf;exact absurd (by decide) hf
  ·have him:i<m.length:=by rw[←hx.len];exact hi
   obtain⟨p1,p2,p3,p4,p5,p6⟩:=hmx.pg i hi
   rw[←r7 hi]at hb1 hb2 hb3 hdl
   obtain⟨o,ho⟩:=Int.eq_ofNat_of_zero_le (show 0≤a+j-(pgN x i).base by omega)
   have hs:aM .i64 (a+j) (pgN x i).base=(o:Int):=by rw[gz (by unfold I64;omega),ho]
   obtain⟨c,hc⟩:∃c:Nat,c=min (t.length-j) (256-o):=⟨_,rfl⟩
   have hi':iV ((t.length-j:Nat):Int) (aM .i64 256 (o:Int))=(c:Int):=by
    rw[gz (by unfold I64;omega)];unfold iV;split<;>omega
   have hfi:fnd x (a+j)=(i:Int):=h0
   rw[ah (gY (by omega)),li x hmx.r _ (by unfold I64;omega),aa]
   dsimp only
   rw[hfi]
   simp only[wj,hs,hi',ce,p6]
   rw[eg (a:=(o:Int)) (by unfold I64;omega),eg (a:=a+j) (by unfold I64;omega)]
   rw[ah (cu (by omega) (by omega)),ah (cu (by omega) (by omega)),ah (oP (by omega) (by omega)),ah (oP (by omega) (by omega))]
   rw[ah (j6 (by unfold gj;simp only[List.length_take];omega)),ah (oP (by omega) (by omega))]
   rw[ah (j6 (by unfold gj jH fu;simp only[List.length_take,List.length_append,List.length_drop];omega)),ah (cu (by omega) (by omega)),ah (oP (by omega) (by omega))]
   refine hrec _ ⟨j+c,by omega,by dsimp only;omega,?_,?_⟩ ?_
   ·dsimp only;unfold jH;rw[List.drop_drop,Int.toNat_natCast]
   ·have:=Laid.step hm hx him (o:=o) (c:=c) (by rw[←(hx.pg i him).1];omega) (by omega) (by omega)
    dsimp only
    unfold aN gj jH fu
    rw[Int.toNat_natCast,Int.toNat_natCast,Int.toNat_natCast,show((o:Int)+(c:Int)).toNat=o+c by omega]
    exact this
   ·dsimp only;unfold jH;simp only[List.length_drop];omega
 ·have:j=t.length:=by omega
  subst this
  rw[aw (gA (by omega))]
  exact⟨x,rfl,hx⟩
theorem lay_ex (m:List Page)(hm:MemT m)(a:Int)(t:List UInt8)(_ha:I64 a)(ht:t.length≤8)(hok:∀k,k<t.length→¬fnd m (a+(k:Nat))<0):
  ∃x,db (((m,()),(a,(t,()))),())=some ((),(x,()))∧Laid m a t t.length x:=by
 unfold db
 dsimp only
 rw[rp m (by have:=hm.len;omega),aa]
 refine lh (fun s=>∃j:Nat,j≤t.length∧s.1.1=a+j∧s.1.2.1=t.drop j∧Laid m a t j s.2.2.2.2.1∧s.2.1.1=m) (fun s=>s.1.2.1.length) (fun _ o=>∃x,o=some ((),(x,()))∧Laid m a t t.length x) ?_ F _ ⟨0,by simp,by simp,by simp,Laid.start hm a t,rfl⟩ (by unfold F;dsimp only;omega)
 rintro⟨⟨b,u,_⟩,⟨m',_⟩,_,_,x,_⟩ rec ⟨j,hj,h1,h2,hx,h3⟩ hrec
 dsimp only at h1 h2 h3 hx hrec⊢
 subst h1 h2 h3
 rw[show bw (t.drop j)=((t.length-j:Nat):Int)from by rw[ce,List.length_drop]]
 by_cases hjl:j<t.length
 ·have hmx:=hx.memT hm
  have hf:=hok j hjl
  rcases mu hm.r (a+j)with h0|⟨i,hi,h0,hb1,hb2,r0,r1,hb3,hdl⟩
  ·rw[h0]at hf;exact absurd (by decide) hf
  ·have hix:i<x.length:=by rw[hx.len];exact hi
   obtain⟨p1,p2,p3,p4,p5,p6⟩:=hmx.pg i hix
   rw[←r7 hi]at hb1 hb2 hb3 hdl
   have hbe:=(hx.pg i hi).1
   obtain⟨o,ho⟩:=Int.eq_ofNat_of_zero_le (show 0≤a+j-(pgN m' i).base by omega)
   have hs:io (a+j) 256=(o:Int):=by rw[iG r0];omega
   obtain⟨c,hc⟩:∃c:Nat,c=min (t.length-j) (256-o):=⟨_,rfl⟩
   have hi':iV ((t.length-j:Nat):Int) (aM .i64 256 (o:Int))=(c:Int):=by
    rw[gz (by unfold I64;omega)];unfold iV;split<;>omega
   have hfi:fnd m' (a+j)=(i:Int):=h0
   rw[ah (gY (by omega)),pE m' hm.r,aa]
   dsimp only
   rw[hfi]
   simp only[wj,hs,hi',ce,p6]
   rw[eg (a:=(o:Int)) (by unfold I64;omega),eg (a:=a+j) (by unfold I64;omega)]
   rw[ah (cu (by omega) (by omega)),ah (oP (by omega) (by omega)),ah (oP (by omega) (by omega))]
   rw[ah (j6 (by unfold gj;simp only[List.length_take];omega)),ah (oP (by omega) (by omega))]
   rw[ah (j6 (by unfold gj jH fu;simp only[List.length_take,List.length_append,List.length_drop];omega)),ah (oP (by omega) (by omega))]
   refine hrec _ ⟨j+c,by omega,by dsimp only;omega,?_,?_,rfl⟩ ?_
   ·dsimp only;unfold jH;rw[List.drop_drop,Int.toNat_natCast]
   ·have:=Laid.step hm hx hi (o:=o) (c:=c) (by omega) (by omega) (by omega)
    dsimp only
    unfold aN gj jH fu
    rw[Int.toNat_natCast,Int.toNat_natCast,Int.toNat_natCast,show((o:Int)+(c:Int)).toNat=o+c by omega]
    exact this
   ·dsimp only;unfold jH;simp only[List.length_drop];omega
 ·have:j=t.length:=by omega
  subst this
  rw[aw (gA (by omega))]
  exact⟨x,rfl,hx⟩
end Go.Den.G
namespace Go.Den.G
open Go.Den
def byI (v:Int)(k:Nat):Int:=v/2^(8*k)%256
def leB (v:Int)(n:Nat):List UInt8:=jB ((List.range n).map (byI v))
theorem ni (v:Int)(n:Nat):(leB v n).length=n:=by simp[leB,jB]
theorem shrI (v:Int)(k:Nat)(hk:k<8):ak .u8 (ci .i64 v (8*(k:Int)))=byI v k:=by
 unfold ci byI ak
 rw[sA,show(8*(k:Int)).toNat=8*k by omega,show min (8*k) (IntKind.bits .i64)=8*k from by simp only[IntKind.bits];omega]
 rw[Int.fdiv_eq_ediv_of_nonneg _ (Int.le_of_lt (Int.pow_pos (by decide)))]
theorem shrU (v:Int)(k:Nat)(hk:k<8):ak .u8 (ci .u64 (ak .u64 v) (ak .u64 (8*(k:Int))))=byI v k:=by
 rw[cr (n:=8*(k:Int)) (by omega) (by omega)]
 unfold ci byI ak
 rw[sA,ez,show(8*(k:Int)).toNat=8*k by omega,show min (8*k) (IntKind.bits .u64)=8*k from by simp only[IntKind.bits];omega]
 rw[Int.fdiv_eq_ediv_of_nonneg _ (Int.le_of_lt (Int.pow_pos (by decide)))]
 match k,hk with
 |0,_=>show v%18446744073709551616/1%256=v/1%256;omega
 |1,_=>show v%18446744073709551616/256%256=v/256%256;omega
 |2,_=>show v%18446744073709551616/65536%256=v/65536%256;omega
 |3,_=>show v%18446744073709551616/16777216%256=v/16777216%256;omega
 |4,_=>show v%18446744073709551616/4294967296%256=v/4294967296%256;omega
 |5,_=>show v%18446744073709551616/1099511627776%256=v/1099511627776%256;omega
 |6,_=>show v%18446744073709551616/281474976710656%256=v/281474976710656%256;omega
 |7,_=>show v%18446744073709551616/72057594037927936%256=v/72057594037927936%256;omega
theorem tF (v:Int)(n:Nat)(hn:n≤8):dz ((v,((n:Int),())),())=some (leB v n,()):=by
 unfold dz
 dsimp only
 refine(fo (fun s=>s.1.1=v∧s.1.2.1=(n:Int)∧∃k:Nat,k≤n∧s.1.2.2.1=(k:Int)∧s.2.1=(List.range k).map (byI v)) (fun s=>n-s.1.2.2.1.toNat) (fun _=>some (leB v n,())) ?_ F _ ⟨rfl,rfl,0,by omega,by simp,by simp⟩ (by unfold F;dsimp only;omega))
 rintro⟨⟨b,l,i,_⟩,u,_⟩ rec ⟨h1,h2,k,hk,h3,h4⟩ hrec
 dsimp only at h1 h2 h3 h4 hrec⊢
 subst h1 h2 h3 h4
 by_cases hl:k<n
 ·rw[eI (by omega) (by omega),shrU b k (by omega),cr (n:=8*(k:Int)) (by omega) (by omega),ah (gY (by omega)),ah (fv (by omega)),ah (j6 (by simp;omega)),bS (by omega) (by omega)]
  refine hrec _ ⟨rfl,rfl,k+1,by omega,by dsimp only;omega,?_⟩ (by dsimp only;omega)
  dsimp only
  rw[List.range_succ,List.map_append];rfl
 ·have:k=n:=by omega
  subst this
  rw[aw (gA (by omega))];rfl
theorem zD (v:Int)(n:Nat)(hn:n≤8):fB ((v,((n:Int),())),())=some (leB v n,()):=by
 unfold fB
 dsimp only
 rw[ah (oP (by omega) (by omega)),ah (u9 (by omega))]
 have hr:bw (sC (n:Int) (ag .u))=(n:Int):=by simp[bw,sC]
 rw[hr]
 refine(fo (fun s=>s.1.1=v∧s.1.2.1=(n:Int)∧∃k:Nat,k≤n∧s.1.2.2.1=(k:Int)∧s.2.1=(List.range k).map (byI v)++List.replicate (n-k) (ag .u)) (fun s=>n-s.1.2.2.1.toNat) (fun _=>some (leB v n,())) ?_ F _ ⟨rfl,rfl,0,by omega,by simp,by simp[sC]⟩ (by unfold F;dsimp only;omega))
 rintro⟨⟨b,l,i,_⟩,u,_⟩ rec ⟨h1,h2,k,hk,h3,h4⟩ hrec
 dsimp only at h1 h2 h3 h4 hrec⊢
 subst h1 h2 h3
 have hul:u.length=n:=by rw[h4];simp;omega
 by_cases hl:k<n
 ·rw[eI (by omega) (by omega),shrI b k (by omega),ah (gY (by omega)),ah (fv (by omega)),ah (cu (by omega) (by rw[ce];omega)),bS (by omega) (by omega)]
  refine hrec _ ⟨rfl,rfl,k+1,by omega,by dsimp only;omega,?_⟩ (by dsimp only;omega)
  dsimp only
  rw[h4]
  unfold aN
  rw[Int.toNat_natCast,List.set_append_right _ _ (by simp),List.length_map,List.length_range,Nat.sub_self,show n-k=(n-(k+1))+1 by omega,List.replicate_succ,List.range_succ,List.map_append,List.append_assoc];rfl
 ·have:k=n:=by omega
  subst this
  rw[aw (gA (by omega)),h4,Nat.sub_self]
  simp[leB]
theorem rN {n:Int}(h:bX n=true):n=1∨n=2∨n=4∨n=8:=by
 simp only[bX,eqI,Bool.or_eq_true,decide_eq_true_eq]at h;exact h
theorem tT (v:Int):(BitVec.ofInt 64 v).toNat=(v%18446744073709551616).toNat:=by
 rw[BitVec.toNat_ofInt];rfl
theorem nW (v:Int)(j:Nat)(hj:j<63):dl .i64 v (2^j-1)=v%2^j:=by
 unfold dl
 show IntKind.wrap .i64 (((BitVec.ofInt 64 v&&& BitVec.ofInt 64 (2^j-1)).toNat:Nat):Int)=_
 rw[BitVec.toNat_and,tT,tT]
 have hp:(1:Int)≤2^j:=Int.pow_pos (by decide)
 have hp2:(2:Int)^j*2^(63-j)=9223372036854775808:=by rw[←Int.pow_add,show j+(63-j)=63 by omega];rfl
 have hp3:(1:Int)≤2^(63-j):=Int.pow_pos (by decide)
 have hle:(2:Int)^j≤9223372036854775808:=by
  have:=Int.mul_le_mul_of_nonneg_left hp3 (show(0:Int)≤2^j by omega)
  omega
 have e2:(((2:Int)^j-1)%18446744073709551616).toNat=2^j-1:=by
  rw[Int.emod_eq_of_lt (by omega) (by omega)]
  have:((2^j:Nat):Int)=(2:Int)^j:=by simp
  omega
 rw[e2,Nat.and_two_pow_sub_one_eq_mod]
 have e3:((v%18446744073709551616).toNat%2^j:Nat)=((v%2^j).toNat):=by
  have h1:((v%18446744073709551616).toNat:Int)=v%18446744073709551616:=Int.toNat_of_nonneg (by omega)
  have h2:(((v%18446744073709551616).toNat%2^j:Nat):Int)=v%2^j:=by
   rw[Int.natCast_emod,h1,Int.natCast_pow]
   refine Int.emod_emod_of_dvd v ⟨2^(63-j)*2,?_⟩
   show(18446744073709551616:Int)=2^j*(2^(63-j)*2)
   rw[←Int.mul_assoc,hp2];rfl
  omega
 rw[e3,Int.toNat_of_nonneg (Int.emod_nonneg _ (by omega))]
 have h5:=Int.emod_lt_of_pos v (show(0:Int)<2^j by omega)
 have h6:=Int.emod_nonneg v (show(2:Int)^j≠0 by omega)
 exact dm ⟨by omega,by omega⟩
def bL (v:Int)(n:Nat):Int:=if n=8 then v else v%2^(8*n)
theorem bB (v:Int)(n:Nat)(hn:bX (n:Int)=true):af ((v,((n:Int),())),())=some (bL v n,()):=by
 unfold af bL
 dsimp only
 by_cases h8:n=8
 ·subst h8;rw[show eqI ((8:Nat):Int) 8=true from rfl,aR,if_pos rfl]
 ·have hn4:n≤4:=by rcases rN hn with h|h|h|h<;>omega
  rw[aw (aG (by omega)),eI (by omega) (by omega),ah (fv (by omega)),if_neg h8]
  have hs:aM .i64 (cH .i64 1 (8*(n:Int))) 1=2^(8*n)-1:=by
   rcases rN hn with h|h|h|h
   ·have:n=1:=by omega
    subst this;rfl
   ·have:n=2:=by omega
    subst this;rfl
   ·have:n=4:=by omega
    subst this;rfl
   ·omega
  rw[hs,nW v (8*n) (by omega)]
end Go.Den.G
namespace Go.Den.G
open Go.Den
set_option maxRecDepth 100000
instance decI64 (n:Int):Decidable (I64 n):=by unfold I64;infer_instance
theorem nI (v:Int)(k:Nat)(h0:1≤k)(h1:k≤8):aq ((v,((k:Int),())),())=some (IntKind.wrap .i64 ((uns v%2^(8*k):Nat):Int),()):=by
 unfold aq
 dsimp only
 rw[eI (by omega) (by omega),eu (by omega) (by omega)]
 have hu:uns v%2^(8*k)<2^(8*k):=Nat.mod_lt _ (Nat.two_pow_pos _)
 have hp:(2:Nat)^(8*k)≤2^64:=Nat.pow_le_pow_right (by decide) (by omega)
 generalize hw:uns v%2^(8*k)=w at hu⊢
 refine fo (fun x=>x.1.1=v∧ -1≤x.1.2.2.1∧x.1.2.2.1≤8*(k:Int)-1∧x.1.2.1=((w/2^(x.1.2.2.1+1).toNat:Nat):Int)) (fun x=>(x.1.2.2.1+1).toNat)
  (fun _=>some (IntKind.wrap .i64 (w:Int),())) ?_ F _ ⟨rfl,by dsimp only;omega,by dsimp only;omega,?_⟩ (by unfold F;dsimp only;omega)
 ·rintro⟨⟨v',acc,i,_⟩,_⟩ rec ⟨rfl,h2,h3,hacc⟩ hrec
  dsimp only at h2 h3 hacc hrec⊢
  by_cases hi:0≤i
  ·obtain⟨j,rfl⟩:=Int.eq_ofNat_of_zero_le hi
   rw[ah (fv hi),pb _ _ (by omega) (by omega),aa]
   dsimp only
   have e3:v'%2^64/2^((j:Int)).toNat%2=((w/2^j%2:Nat):Int):=by
    have hb:∀a j:Nat,a/2^j%2=(a.testBit j).toNat:=fun a j=>by rw[Nat.testBit_eq_decide_div_mod_eq];rcases Nat.mod_two_eq_zero_or_one (a/2^j)with h|h<;>simp[h]
    have:w/2^j%2=uns v'/2^j%2:=by
     rw[hb,hb,←hw,Nat.testBit_mod_two_pow,decide_eq_true (by omega),Bool.true_and]
    rw[this,←bc];simp
   rw[e3]
   have e4:w/2^(((j:Int)+1).toNat)=w/2^j/2:=by
    rw[show((j:Int)+1).toNat=j+1 by omega,Nat.pow_succ,Nat.div_div_eq_div_mul]
   rw[e4]at hacc
   generalize hq:w/2^j=q at hacc⊢
   have hq2:q<2^64:=by rw[←hq];exact Nat.lt_of_le_of_lt (Nat.div_le_self _ _) (by omega)
   have e5:ax .u64 (bf .u64 2 acc) (ak .u64 ((q%2:Nat):Int))=(q:Int):=by
    unfold ax bf ak
    rw[hacc,km (n:=2*((q/2:Nat):Int)) (by omega) (by omega),km (n:=((q%2:Nat):Int)) (by omega) (by omega),km (by omega) (by omega)]
    omega
   rw[e5,eu (by omega) (by omega)]
   refine hrec _ ⟨rfl,by dsimp only;omega,by dsimp only;omega,?_⟩ (by dsimp only;omega)
   dsimp only
   rw[show((j:Int)-1+1).toNat=j by omega,hq]
  ·rw[aw (jy hi)]
   have:i= -1:=by omega
   subst this
   rw[hacc]
   simp
   rfl
 ·dsimp only
  rw[show(8*(k:Int)-1+1).toNat=8*k by omega,Nat.div_eq_of_lt hu];rfl
theorem bj {v:Int}(hv:I64 v)(k:Nat)(hk:bX (k:Int)=true):aq ((v,((k:Int),())),())=some (bL v k,()):=by
 obtain⟨k1,k8⟩:1≤k∧k≤8:=by rcases rN hk with h|h|h|h<;>omega
 rw[nI v k k1 k8]
 unfold bL
 by_cases h8:k=8
 ·subst h8
  rw[if_pos rfl]
  have hlt:uns v<2^64:=by have:=bc v;have:=Int.emod_lt_of_pos v (show(0:Int)<2^64 by decide);omega
  rw[show 8*8=64 from rfl,Nat.mod_eq_of_lt hlt,bc]
  have he:IntKind.wrap .i64 (v%2^64)=IntKind.wrap .i64 v:=by
   simp[IntKind.wrap,IntKind.bits]
  rw[he,dm hv]
 ·rw[if_neg h8]
  have e:((uns v%2^(8*k):Nat):Int)=v%2^(8*k):=by
   rw[Int.natCast_emod,bc,show((2^(8*k):Nat):Int)=(2:Int)^(8*k)by simp]
   refine Int.emod_emod_of_dvd v ⟨2^(64-8*k),?_⟩
   rw[←Int.pow_add];congr 1;omega
  rw[e]
  have h1:=Int.emod_nonneg v (show(2:Int)^(8*k)≠0 from Int.ne_of_gt (Int.pow_pos (by decide)))
  have h2:=Int.emod_lt_of_pos v (show(0:Int)<2^(8*k)from Int.pow_pos (by decide))
  have h3:(2:Int)^(8*k)≤2^32:=by
   have:k=1∨k=2∨k=4:=by rcases rN hk with h|h|h|h<;>omega
   rcases this with rfl|rfl|rfl<;>decide
  generalize (2:Int)^(8*k)=q at h1 h2 h3⊢
  rw[dm (n:=v%q) ⟨by omega,by omega⟩]
end Go.Den.G
namespace Go.Den.G
open Go.Den
set_option maxRecDepth 100000
def jY (v:Int)(k:Nat):Bool:=decide (v%2^64/2^k%2=1)
theorem gG (v:Int)(k:Nat):jY v k=(uns v).testBit k:=by
 unfold jY
 rw[←bc,Nat.testBit_eq_decide_div_mod_eq]
 have e:((uns v:Int)/2^k%2=1)↔(uns v/2^k%2=1):=by
  have:((uns v:Int)/2^k%2)=((uns v/2^k%2:Nat):Int):=by simp
  rw[this];omega
 simp only[e]
theorem dQ (v:Int):uns v<2^64:=by have:=bc v;have:=Int.emod_lt_of_pos v (show(0:Int)<2^64 by decide);omega
theorem bM (v:Int):uns (IntKind.wrap .i64 v)=uns v:=by
 unfold uns
 have:IntKind.wrap .i64 v%2^64=v%2^64:=by
  simp only[IntKind.wrap,IntKind.bits,IntKind.signed,Bool.true_and]
  split<;>omega
 rw[this]
theorem ew {n:Nat}(h:n<2^64):uns (n:Int)=n:=by unfold uns;omega
theorem oo (a b:Int):uns (dl .i64 a b)=uns a&&& uns b:=by
 unfold dl
 rw[bM]
 show uns (((BitVec.ofInt 64 a&&& BitVec.ofInt 64 b).toNat:Nat):Int)=_
 rw[ew (BitVec.isLt _),BitVec.toNat_and];rfl
theorem ot (a b:Int):uns (oX .i64 a b)=uns a ^^^uns b:=by
 unfold oX
 rw[bM]
 show uns (((BitVec.ofInt 64 a ^^^BitVec.ofInt 64 b).toNat:Nat):Int)=_
 rw[ew (BitVec.isLt _),BitVec.toNat_xor];rfl
theorem kR (a b:Int):uns (ior .i64 a b)=uns a|||uns b:=by
 unfold ior
 rw[bM]
 show uns (((BitVec.ofInt 64 a|||BitVec.ofInt 64 b).toNat:Nat):Int)=_
 rw[ew (BitVec.isLt _),BitVec.toNat_or];rfl
theorem v8 (a b:Int)(k:Nat):jY (dl .i64 a b) k=(jY a k&&jY b k):=by rw[gG,gG,gG,oo,Nat.testBit_and]
theorem nU (a b:Int)(k:Nat):jY (oX .i64 a b) k=(jY a k ^^jY b k):=by rw[gG,gG,gG,ot,Nat.testBit_xor]
theorem iw {a b:Int}(ha:I64 a)(hb:I64 b)(h:uns a=uns b):a=b:=by
 unfold I64 at*
 have h1:=bc a
 have h2:=bc b
 rw[h]at h1
 omega
theorem BF (v:Int):dl .i64 v 1=v%2:=nW v 1 (by decide)
theorem Ap {v:Int}(k:Nat)(hk:k≤63):eqI (dl .i64 (ci .i64 v (k:Int)) 1) 1=jY v k:=by
 rw[BF]
 unfold ci jY eqI
 rw[Int.toNat_natCast,show min k IntKind.i64.bits=k by simp[IntKind.bits];omega]
 have hp:(0:Int)<2^k:=Int.pow_pos (by decide)
 rw[Int.fdiv_eq_ediv_of_nonneg _ (Int.le_of_lt hp)]
 have e:v/2^k%2=v%2^64/2^k%2:=by
  have h64:(2:Int)^k*2^(64-k)=2^64:=by rw[←Int.pow_add];congr 1;omega
  have h2:(2:Int)^(64-k)=2*2^(63-k):=by rw[show 64-k=(63-k)+1 by omega,Int.pow_succ,Int.mul_comm]
  have hd:v=v%2^64+2^k*(2*2^(63-k)*(v/2^64)):=by
   have:=(Int.emod_add_mul_ediv v (2^64)).symm
   rw[←Int.mul_assoc,←h2,h64];exact this
  generalize v%2^64=r at hd⊢
  generalize v/2^64=s at hd
  rw[hd,Int.add_mul_ediv_left _ _ (Int.ne_of_gt hp),Int.mul_assoc,Int.add_mul_emod_self_left]
 rw[e]
theorem pY {v:Int}(n:Nat)(hn:1≤n)(hn8:n≤8):cP ((v,(n:Int),()),())=some (jY v (8*n-1),()):=by
 unfold cP
 dsimp only
 rw[eI (by omega) (by omega),eu (by omega) (by omega),ah (fv (by omega))]
 have e:8*(n:Int)-1=((8*n-1:Nat):Int):=by omega
 rw[e,Ap _ (by omega)]
theorem gf (b:Bool)(k:Int):aZ ((b,k,()),())=some (if b=true then k else 0,()):=by
 unfold aZ;cases b<;>rfl
end Go.Den.G
namespace Go.Den.G
open Go.Den
set_option maxRecDepth 100000
def parL:List Bool:=(List.range 256).map fun u=>(u%2+u/2%2+u/4%2+u/8%2+u/16%2+u/32%2+u/64%2+u/128%2)%2==0
def CS (v:Int):Bool:=parL.getD (uns v%256) false
def uw (n:Nat)(v:Int):Int:=ior .i64 (ior .i64 (if jY v (8*n-1)=true then 128 else 0) (if bL v n=0 then 64 else 0)) (if CS v=true then 4 else 0)
def onesB (u:Nat):Bool:=match b9 (((u:Int),()),())with
 |some x=>decide ((io x.1 2=0)=(parL.getD u false=true))
 |none=>false
theorem Cu:∀u:Nat,u<256→onesB u=true:=by decide +kernel
theorem wrapU8 (v:Int):ak .u8 v=((uns v%256:Nat):Int):=by
 unfold ak uns
 rw[sA];omega
theorem gW {v:Int}(n:Nat)(hn:bX (n:Int)=true):bC (((n:Int),v,()),())=some (uw n v,()):=by
 obtain⟨h1,h8⟩:1≤n∧n≤8:=by rcases rN hn with h|h|h|h<;>omega
 unfold bC
 dsimp only
 rw[pY n h1 h8,aa]
 dsimp only
 rw[gf,aa,bB v n hn,aa]
 dsimp only
 rw[gf,aa,wrapU8]
 have hu:uns v%256<256:=Nat.mod_lt _ (by decide)
 have ho:=Cu (uns v%256) hu
 unfold onesB at ho
 cases hx:b9 ((((uns v%256:Nat):Int),()),())with
 |none=>rw[hx]at ho;cases ho
 |some x=>
  rw[hx]at ho
  have ho:=of_decide_eq_true ho
  rw[aa,gf,aa]
  have e:eqI (io x.1 2) 0=CS v:=by
   rw[Bool.eq_iff_iff,dj,ho];rfl
  rw[e]
  unfold uw
  simp only[dj]
def bV (v:Int)(n:Nat):Nat:=uns v%2^(8*n)
def lB (u n:Nat):Int:=IntKind.wrap .i64 ((u%2^(8*n):Nat):Int)
def sumV (n:Nat)(a b:Int)(c:Nat):Int:=lB (bV a n+bV b n+c) n
def sumC (n:Nat)(a b:Int)(c:Nat):Bool:=decide ((bV a n+bV b n+c)/2^(8*n)=1)
def sumI (n:Nat)(a b:Int)(c:Nat):Bool:=decide ((bV a n%2^(8*n-1)+bV b n%2^(8*n-1)+c)/2^(8*n-1)=1)
def Da (n:Nat)(a b:Int)(c:Nat):Int:=lB (bV a n+2^(8*n)-bV b n-c) n
def subC (n:Nat)(a b:Int)(c:Nat):Bool:=decide (bV a n<bV b n+c)
def Aw (n:Nat)(a b:Int)(c:Nat):Bool:=decide (bV a n%2^(8*n-1)<bV b n%2^(8*n-1)+c)
def addF (n:Nat)(v:Int)(c i:Bool):Int:=ior .i64 (ior .i64 (uw n v) (if c=true then 1 else 0)) (if(c != i)=true then 2048 else 0)
def sE (n:Nat)(a b:Int)(c:Nat):Int×Int:=(sumV n a b c,addF n (sumV n a b c) (sumC n a b c) (sumI n a b c))
def q8 (n:Nat)(a b:Int)(c:Nat):Int×Int:=(Da n a b c,addF n (Da n a b c) (subC n a b c) (Aw n a b c))
def nk (v:Int)(n:Nat):Prop:=bL v n=v∧I64 v
theorem gM {v:Int}(hv:I64 v){n:Nat}(hn:bX (n:Int)=true):bL v n=lB (bV v n) n:=by
 unfold lB bV
 rw[Nat.mod_mod]
 have h1:=bj hv n hn
 obtain⟨h1',h8⟩:1≤n∧n≤8:=by rcases rN hn with h|h|h|h<;>omega
 rw[nI v n h1' h8]at h1
 injection h1 with h1
 injection h1 with h1 _
 exact h1.symm
theorem dP {v:Int}:ak .u64 v=((uns v:Nat):Int):=by unfold ak;rw[ez];exact(bc v).symm
theorem zO {v:Int}{n:Nat}(hn:bX (n:Int)=true)(h:nk v n):uns v=bV v n:=by
 obtain⟨h1,h2⟩:=h
 unfold I64 at h2
 unfold bV
 unfold bL at h1
 have:=dQ v
 rcases rN hn with g|g|g|g
 ·have:n=1:=by omega
  subst this
  rw[if_neg (by decide)]at h1
  rw[show(2:Int)^(8*1)=256 from rfl]at h1
  rw[show(2:Nat)^(8*1)=256 from rfl]
  unfold uns;omega
 ·have:n=2:=by omega
  subst this
  rw[if_neg (by decide)]at h1
  rw[show(2:Int)^(8*2)=65536 from rfl]at h1
  rw[show(2:Nat)^(8*2)=65536 from rfl]
  unfold uns;omega
 ·have:n=4:=by omega
  subst this
  rw[if_neg (by decide)]at h1
  rw[show(2:Int)^(8*4)=4294967296 from rfl]at h1
  rw[show(2:Nat)^(8*4)=4294967296 from rfl]
  unfold uns;omega
 ·have:n=8:=by omega
  subst this
  rw[show 8*8=64 from rfl]
  omega
end Go.Den.G
namespace Go.Den.G
open Go.Den
set_option maxRecDepth 100000
theorem fQ (v:Int)(n:Nat):bV v n<2^(8*n):=Nat.mod_lt _ (Nat.two_pow_pos _)
theorem jk (u n:Nat):I64 (lB u n):=aD _
theorem lx (u n:Nat)(hn:n≤8):uns (lB u n)=u%2^(8*n):=by
 unfold lB
 rw[bM]
 have h1:u%2^(8*n)<2^(8*n):=Nat.mod_lt _ (Nat.two_pow_pos _)
 have h2:(2:Nat)^(8*n)≤2^64:=Nat.pow_le_pow_right (by decide) (by omega)
 exact ew (by omega)
theorem uG {n:Nat}(hn:bX (n:Int)=true):n=1∨n=2∨n=4∨n=8:=by rcases rN hn with h|h|h|h<;>omega
theorem di {n:Nat}(hn:bX (n:Int)=true):1≤n∧n≤8:=by rcases uG hn with h|h|h|h<;>omega
theorem sR (u n k:Nat)(hn:n≤8)(hk:k<8*n):jY (lB u n) k=decide (u/2^k%2=1):=by
 rw[gG,lx u n hn,Nat.testBit_mod_two_pow,decide_eq_true hk,Bool.true_and,Nat.testBit_eq_decide_div_mod_eq]
theorem iC {v:Int}{n k:Nat}(hk:k<8*n):jY v k=decide (bV v n/2^k%2=1):=by
 unfold bV
 rw[gG,←Nat.testBit_eq_decide_div_mod_eq,Nat.testBit_mod_two_pow,decide_eq_true hk,Bool.true_and]
theorem ovf (A B C m:Nat)(hm:1≤m)(hA:A<2^m)(hB:B<2^m)(hC:C≤1):
  ((decide (A/2^(m-1)%2=1)^^decide ((A+B+C)/2^(m-1)%2=1))&&(decide (B/2^(m-1)%2=1)^^decide ((A+B+C)/2^(m-1)%2=1)))=
  (decide ((A+B+C)/2^m=1) != decide ((A%2^(m-1)+B%2^(m-1)+C)/2^(m-1)=1)):=by
 obtain⟨k,rfl⟩:∃k,m=k+1:=⟨m-1,by omega⟩
 rw[show k+1-1=k by omega]
 have hp:0<2^k:=Nat.two_pow_pos k
 rw[Nat.pow_succ]at*
 generalize 2^k=P at*
 have a1:=Nat.div_add_mod A P
 have b1:=Nat.div_add_mod B P
 have a2:A/P<2:=by rw[Nat.div_lt_iff_lt_mul hp];omega
 have b2:B/P<2:=by rw[Nat.div_lt_iff_lt_mul hp];omega
 have a3:=Nat.mod_lt A hp
 have b3:=Nat.mod_lt B hp
 generalize A%P=x at*
 generalize B%P=y at*
 have hS:(A+B+C)/P=A/P+B/P+(x+y+C)/P:=by
  have e:A+B+C=(x+y+C)+P*(A/P+B/P):=by rw[Nat.mul_add];omega
  rw[e,Nat.add_mul_div_left _ _ hp];omega
 have hS2:(A+B+C)/(P*2)=(A/P+B/P+(x+y+C)/P)/2:=by rw[←Nat.div_div_eq_div_mul,hS]
 have h3:(x+y+C)/P<2:=by rw[Nat.div_lt_iff_lt_mul hp];omega
 rw[hS,hS2]
 generalize (x+y+C)/P=z at*
 generalize A/P=p at*
 generalize B/P=q at*
 have hp':p=0∨p=1:=by omega
 have hq':q=0∨q=1:=by omega
 have hz':z=0∨z=1:=by omega
 rcases hp' with rfl|rfl<;>rcases hq' with rfl|rfl<;>rcases hz' with rfl|rfl<;>decide
theorem nV {c:Nat}(hc:c≤1):yk (ak .u64 (c:Int))=true∧ak .u64 (c:Int)=c:=by
 have:ak .u64 (c:Int)=c:=cr (by omega) (by omega)
 rw[this]
 exact⟨decide_eq_true (by omega),rfl⟩
theorem ss (v:Int):sr (ak .u64 v)=true:=by
 rw[dP]
 have:=dQ v
 exact decide_eq_true (by omega)
theorem tB {n:Nat}(hn:bX (n:Int)=true)(u:Nat):bL (ak .i64 ((u%18446744073709551616:Nat):Int)) n=lB u n:=by
 obtain⟨h1,h8⟩:=di hn
 have hI:I64 (ak .i64 ((u%18446744073709551616:Nat):Int)):=aD _
 rw[gM hI hn]
 unfold bV
 have:uns (ak .i64 ((u%18446744073709551616:Nat):Int))=u%18446744073709551616:=by
  unfold ak;rw[bM];exact ew (Nat.mod_lt _ (by decide))
 rw[this]
 unfold lB
 rw[Nat.mod_mod,Nat.mod_mod_of_dvd]
 exact⟨2^(64-8*n),by rw[←Nat.pow_add,show 8*n+(64-8*n)=64 by omega]⟩
theorem Ax {a b:Int}{n c:Nat}(hn:bX (n:Int)=true)(ha:nk a n)(hb:nk b n)(hc:c≤1):
  fC (((n:Int),a,b,(c:Int),()),())=some (((sE n a b c).1,(sE n a b c).2,()),()):=by
 obtain⟨h1,h8⟩:=di hn
 have ea:=zO hn ha
 have eb:=zO hn hb
 have la:=fQ a n
 have lb:=fQ b n
 unfold fC
 dsimp only
 rw[ss,ss,(nV hc).1,(nV hc).2,aR,aR,aR,dP,dP,ea,eb]
 have eS:ow ((bV a n:Nat):Int) ((bV b n:Nat):Int) (c:Int)=(((bV a n+bV b n+c)%18446744073709551616:Nat):Int):=by unfold ow;omega
 have eC:sI ((bV a n:Nat):Int) ((bV b n:Nat):Int) (c:Int)=(((bV a n+bV b n+c)/18446744073709551616:Nat):Int):=by unfold sI;omega
 rw[eS,eC]
 refine(Ret.bnd (Q:=fun y=>y=Sum.inl (((n:Int),a,b,(((bV a n+bV b n+c)%18446744073709551616:Nat):Int),sumC n a b c,()),())) ?_ ?_).eq
 ·unfold sumC
  by_cases h:n<8
  ·rw[ah (gY (by omega)),eI (by omega) (by omega),ah (fv (by omega))]
   refine Ret.some ?_
   have hsz:n=1∨n=2∨n=4:=by rcases uG hn with h|h|h|h<;>omega
   have e:eqI (dl .u64 (ci .u64 (((bV a n+bV b n+c)%18446744073709551616:Nat):Int) (8*(n:Int))) 1) 1=decide ((bV a n+bV b n+c)/2^(8*n)=1):=by
    have hs:∀(x:Nat) (k:Nat),x<2^64→k≤64→ci .u64 (x:Int) (k:Int)=((x/2^k:Nat):Int):=fun x k hx hk=>by
     unfold ci
     rw[Int.toNat_natCast,show min k IntKind.u64.bits=k by simp[IntKind.bits];omega]
     rw[Int.fdiv_eq_ediv_of_nonneg _ (Int.le_of_lt (Int.pow_pos (by decide)))]
     simp
    have hand:∀x:Nat,x<2^64→dl .u64 (x:Int) 1=((x%2:Nat):Int):=fun x hx=>by
     unfold dl
     rw[ez]
     have:(BitVec.ofInt IntKind.u64.bits (x:Int)&&& BitVec.ofInt IntKind.u64.bits 1).toNat=x%2:=by
      rw[BitVec.toNat_and]
      have e1:(BitVec.ofInt IntKind.u64.bits (x:Int)).toNat=x:=by
       show(BitVec.ofInt 64 (x:Int)).toNat=x
       rw[BitVec.toNat_ofInt];omega
      rw[e1]
      show x&&& 1=_
      exact Nat.and_one_is_mod x
     rw[this];omega
    have e8:(8*(n:Int))=((8*n:Nat):Int):=by omega
    have hlt:(bV a n+bV b n+c)%18446744073709551616<2^64:=Nat.mod_lt _ (by decide)
    rw[e8,hs _ _ hlt (by omega),hand _ (Nat.lt_of_le_of_lt (Nat.div_le_self _ _) hlt)]
    unfold eqI
    rcases hsz with rfl|rfl|rfl
    ·rw[show(2:Nat)^(8*1)=256 from rfl]at*
     rw[Bool.eq_iff_iff,decide_eq_true_eq,decide_eq_true_eq];omega
    ·rw[show(2:Nat)^(8*2)=65536 from rfl]at*
     rw[Bool.eq_iff_iff,decide_eq_true_eq,decide_eq_true_eq];omega
    ·rw[show(2:Nat)^(8*4)=4294967296 from rfl]at*
     rw[Bool.eq_iff_iff,decide_eq_true_eq,decide_eq_true_eq];omega
   rw[e]
  ·have h8:n=8:=by omega
   subst h8
   rw[aw (gA (by omega))]
   refine Ret.some ?_
   have e:eqI (((bV a 8+bV b 8+c)/18446744073709551616:Nat):Int) 1=decide ((bV a 8+bV b 8+c)/2^(8*8)=1):=by
    unfold eqI
    rw[show(2:Nat)^(8*8)=18446744073709551616 from rfl,Bool.eq_iff_iff,decide_eq_true_eq,decide_eq_true_eq];omega
   rw[e]
 ·rintro _ rfl
  rw[ar]
  dsimp only
  rw[bB _ n hn,tB hn,aa]
  dsimp only
  rw[gW n hn,aa,gf,aa]
  dsimp only
  rw[pY n h1 h8,aa,gf,aa]
  refine Ret.some ?_
  have ho:jY (dl .i64 (oX .i64 a (lB (bV a n+bV b n+c) n)) (oX .i64 b (lB (bV a n+bV b n+c) n))) (8*n-1)=(sumC n a b c != sumI n a b c):=by
   rw[v8,nU,nU,sR _ n _ h8 (by omega),iC (v:=a) (n:=n) (by omega),iC (v:=b) (n:=n) (by omega)]
   exact ovf _ _ _ _ (by omega) la lb hc
  dsimp only
  rw[ho]
  rfl
end Go.Den.G
namespace Go.Den.G
open Go.Den
set_option maxRecDepth 100000
theorem ovfS (A B C m:Nat)(hm:1≤m)(hA:A<2^m)(hB:B<2^m)(hC:C≤1):
  ((decide (A/2^(m-1)%2=1)^^decide (B/2^(m-1)%2=1))&&(decide (A/2^(m-1)%2=1)^^decide ((A+2^m-B-C)/2^(m-1)%2=1)))=
  (decide (A<B+C) != decide (A%2^(m-1)<B%2^(m-1)+C)):=by
 obtain⟨k,rfl⟩:∃k,m=k+1:=⟨m-1,by omega⟩
 rw[show k+1-1=k by omega]
 have hp:0<2^k:=Nat.two_pow_pos k
 rw[Nat.pow_succ]at*
 generalize 2^k=P at*
 have a1:=Nat.div_add_mod A P
 have b1:=Nat.div_add_mod B P
 have a2:A/P<2:=by rw[Nat.div_lt_iff_lt_mul hp];omega
 have b2:B/P<2:=by rw[Nat.div_lt_iff_lt_mul hp];omega
 have a3:=Nat.mod_lt A hp
 have b3:=Nat.mod_lt B hp
 generalize A%P=x at*
 generalize B%P=y at*
 have hd:∀z k:Nat,k*P≤z→z<(k+1)*P→z/P=k:=fun z k h1 h2=>Nat.div_eq_of_lt_le h1 h2
 generalize A/P=p at*
 generalize B/P=q at*
 have hp':p=0∨p=1:=by omega
 have hq':q=0∨q=1:=by omega
 have key:∀k:Nat,(A+P*2-B-C)/P=k→∀b1 b2:Bool,decide (A<B+C)=b1→decide (x<y+C)=b2→
   ((decide (p%2=1)^^decide (q%2=1))&&(decide (p%2=1)^^decide (k%2=1)))=(b1 != b2)→
   ((decide (p%2=1)^^decide (q%2=1))&&(decide (p%2=1)^^decide ((A+P*2-B-C)/P%2=1)))=(decide (A<B+C) != decide (x<y+C)):=fun k e b1 b2 e1 e2 h=>by rw[e,e1,e2];exact h
 rcases hp' with rfl|rfl<;>rcases hq' with rfl|rfl<;>by_cases hb:x<y+C
 ·exact key 1 (hd _ _ (by omega) (by omega)) true true (decide_eq_true (by omega)) (decide_eq_true hb) (by decide)
 ·exact key 2 (hd _ _ (by omega) (by omega)) false false (decide_eq_false (by omega)) (decide_eq_false hb) (by decide)
 ·exact key 0 (hd _ _ (by omega) (by omega)) true true (decide_eq_true (by omega)) (decide_eq_true hb) (by decide)
 ·exact key 1 (hd _ _ (by omega) (by omega)) true false (decide_eq_true (by omega)) (decide_eq_false hb) (by decide)
 ·exact key 2 (hd _ _ (by omega) (by omega)) false true (decide_eq_false (by omega)) (decide_eq_true hb) (by decide)
 ·exact key 3 (hd _ _ (by omega) (by omega)) false false (decide_eq_false (by omega)) (decide_eq_false hb) (by decide)
 ·exact key 1 (hd _ _ (by omega) (by omega)) true true (decide_eq_true (by omega)) (decide_eq_true hb) (by decide)
 ·exact key 2 (hd _ _ (by omega) (by omega)) false false (decide_eq_false (by omega)) (decide_eq_false hb) (by decide)
theorem iE {a b:Int}{n c:Nat}(hn:bX (n:Int)=true)(ha:nk a n)(hb:nk b n)(hc:c≤1):
  bq (((n:Int),a,b,(c:Int),()),())=some (((q8 n a b c).1,(q8 n a b c).2,()),()):=by
 obtain⟨h1,h8⟩:=di hn
 have ea:=zO hn ha
 have eb:=zO hn hb
 have la:=fQ a n
 have lb:=fQ b n
 unfold bq
 dsimp only
 rw[ss,ss,(nV hc).1,(nV hc).2,aR,aR,aR,dP,dP,ea,eb]
 have hpw:(2:Nat)^(8*n)≤18446744073709551616:=Nat.le_trans (Nat.pow_le_pow_right (by decide) (show 8*n≤64 by omega)) (by decide)
 have eS:lO ((bV a n:Nat):Int) ((bV b n:Nat):Int) (c:Int)=(((bV a n+18446744073709551616-bV b n-c)%18446744073709551616:Nat):Int):=by unfold lO;omega
 have eC:eqI (kr ((bV a n:Nat):Int) ((bV b n:Nat):Int) (c:Int)) 1=subC n a b c:=by
  unfold kr subC eqI
  rw[Bool.eq_iff_iff,decide_eq_true_eq,decide_eq_true_eq]
  split<;>omega
 have eV:lB (bV a n+18446744073709551616-bV b n-c) n=Da n a b c:=by
  unfold Da lB
  have:(bV a n+18446744073709551616-bV b n-c)%2^(8*n)=(bV a n+2^(8*n)-bV b n-c)%2^(8*n):=by
   have hd:(18446744073709551616:Nat)=2^(8*n)*(2^(64-8*n)-1)+2^(8*n):=by
    rw[Nat.mul_sub,←Nat.pow_add,show 8*n+(64-8*n)=64 by omega]
    omega
   generalize 2^(8*n)=Q at*
   generalize 2^(64-8*n)-1=R at*
   have e:bV a n+18446744073709551616-bV b n-c=(bV a n+Q-bV b n-c)+Q*R:=by omega
   rw[e,Nat.add_mul_mod_self_left]
  rw[this]
 rw[eS,eC,bB _ n hn,tB hn,eV,aa]
 dsimp only
 rw[gW n hn,aa,gf,aa]
 dsimp only
 rw[pY n h1 h8,aa,gf,aa]
 have ho:jY (dl .i64 (oX .i64 a b) (oX .i64 a (Da n a b c))) (8*n-1)=(subC n a b c != Aw n a b c):=by
  rw[v8,nU,nU]
  unfold Da
  rw[sR _ n _ h8 (by omega),iC (v:=a) (n:=n) (by omega),iC (v:=b) (n:=n) (by omega)]
  exact ovfS _ _ _ _ (by omega) la lb hc
 dsimp only
 rw[ho]
 rfl
def kk (op a b:Int):Int:=if op=2 then ior .i64 a b else if op=7 then oX .i64 a b else dl .i64 a b
def uK (op:Int)(n:Nat)(a b f:Int):Int×Int:=
 if op=1 then sE n (bL a n) (bL b n) 0
 else if op=3 then sE n (bL a n) (bL b n) (f%2).toNat
 else if op=6 then q8 n (bL a n) (bL b n) 0
 else if op=4 then q8 n (bL a n) (bL b n) (f%2).toNat
 else if op=8 then(bL a n,(q8 n (bL a n) (bL b n) 0).2)
 else if op=10 then(bL a n,uw n (dl .i64 (bL a n) (bL b n)))
 else(kk op (bL a n) (bL b n),uw n (kk op (bL a n) (bL b n)))
theorem dR {v:Int}(hv:I64 v){n:Nat}(hn:bX (n:Int)=true):I64 (bL v n):=by
 rw[gM hv hn];exact jk _ _
theorem ll {v:Int}(hv:I64 v){n:Nat}(hn:bX (n:Int)=true):bV (bL v n) n=bV v n:=by
 rw[gM hv hn]
 unfold bV
 rw[lx _ _ (di hn).2,Nat.mod_mod,Nat.mod_mod]
theorem kF {v:Int}(hv:I64 v){n:Nat}(hn:bX (n:Int)=true):nk (bL v n) n:=by
 refine⟨?_,dR hv hn⟩
 rw[gM (dR hv hn) hn,ll hv hn,←gM hv hn]
theorem tu (f:Int):dl .i64 f 1=((f%2).toNat:Int):=by rw[BF];omega
theorem alu_eq {op a b f:Int}{n:Nat}(hn:bX (n:Int)=true)(ha:I64 a)(hb:I64 b):iI ((op,(n:Int),a,b,f,()),())=some (((uK op n a b f).1,(uK op n a b f).2,()),()):=by
 have oa:=kF ha hn
 have ob:=kF hb hn
 have s0:=Ax (c:=0) hn oa ob (by decide)
 have s1:=Ax (c:=(f%2).toNat) hn oa ob (by omega)
 have d0:=iE (c:=0) hn oa ob (by decide)
 have d1:=iE (c:=(f%2).toNat) hn oa ob (by omega)
 rw[show((0:Nat):Int)=0 from rfl]at s0 d0
 unfold iI uK
 dsimp only
 rw[bB _ n hn,bB _ n hn,aa,aa]
 dsimp only
 rw[tu,s0,s1,d0,d1]
 by_cases h1:op=1
 ·rw[ah (bn h1),if_pos h1,aa]
 rw[aw (aG h1),if_neg h1]
 by_cases h3:op=3
 ·rw[ah (bn h3),if_pos h3,aa]
 rw[aw (aG h3),if_neg h3]
 by_cases h6:op=6
 ·rw[ah (bn h6),if_pos h6,aa]
 rw[aw (aG h6),if_neg h6]
 by_cases h4:op=4
 ·rw[ah (bn h4),if_pos h4,aa]
 rw[aw (aG h4),if_neg h4]
 by_cases h8:op=8
 ·rw[ah (bn h8),if_pos h8,aa]
 rw[aw (aG h8),if_neg h8]
 unfold kk
 by_cases h2:op=2
 ·rw[ah (bn h2),aa,ar,gW n hn,aa,if_neg (by omega),if_pos h2]
 rw[aw (aG h2)]
 by_cases h7:op=7
 ·rw[ah (bn h7),aa,ar,aa,ar,gW n hn,aa,if_neg (by omega),if_neg h2,if_pos h7]
 rw[aw (aG h7)]
 by_cases h10:op=10
 ·rw[ah (bn h10),gW n hn,aa,aa,ra,aa,ra,if_pos h10]
 rw[aw (aG h10),aa,ar,aa,ar,gW n hn,aa,if_neg h10,if_neg h2,if_neg h7]
end Go.Den.G
namespace Go.Den.G
open Go.Den
end Go.Den.G
namespace Go.Den.G
open Go.Den
set_option maxRecDepth 100000
theorem lg (n:Int):cX ((n,()),())=some (decide (n=1∨n=2∨n=4∨n=8),()):=by
 unfold cX
 simp only[iu,aa,eqI,←Bool.decide_or,or_assoc]
theorem lF:dI=cX:=rfl
theorem aW (n a b:Int):aF ((n,(a,(b,()))),())=some (decide (a≤n∧n≤b),()):=by
 unfold aF
 simp only[gH,aa,leI,Bool.decide_and]
theorem bG:aI=aF:=rfl
def regL1:List (List UInt8):=[[97,108],[99,108],[100,108],[98,108],[115,112,108],[98,112,108],[115,105,108],[100,105,108],[114,56,98],[114,57,98],[114,49,48,98],[114,49,49,98],[114,49,50,98],[114,49,51,98],[114,49,52,98],[114,49,53,98],[97,104],[99,104],[100,104],[98,104]]
def regL2:List (List UInt8):=[[97,120],[99,120],[100,120],[98,120],[115,112],[98,112],[115,105],[100,105],[114,56,119],[114,57,119],[114,49,48,119],[114,49,49,119],[114,49,50,119],[114,49,51,119],[114,49,52,119],[114,49,53,119]]
def regL4:List (List UInt8):=[[101,97,120],[101,99,120],[101,100,120],[101,98,120],[101,115,112],[101,98,112],[101,115,105],[101,100,105],[114,56,100],[114,57,100],[114,49,48,100],[114,49,49,100],[114,49,50,100],[114,49,51,100],[114,49,52,100],[114,49,53,100]]
def regL8:List (List UInt8):=[[114,97,120],[114,99,120],[114,100,120],[114,98,120],[114,115,112],[114,98,112],[114,115,105],[114,100,105],[114,56],[114,57],[114,49,48],[114,49,49],[114,49,50],[114,49,51],[114,49,52],[114,49,53]]
def regL (s:Int):List (List UInt8):=if s=1 then regL1 else if s=2 then regL2 else if s=4 then regL4 else regL8
def kM (s:Int):Prop:=s=1∨s=2∨s=4∨s=8
instance (s:Int):Decidable (kM s):=by unfold kM;infer_instance
def regP (r s:Int):Prop:=0≤r∧r<(regL s).length
instance (r s:Int):Decidable (regP r s):=by unfold regP;infer_instance
def Dz (r s:Int):List UInt8:=if regP r s then(regL s).getD r.toNat []else []
theorem BO (r s:Int):gp ((r,(s,())),())=some (decide (kM s∧(0≤r∧r≤15∨s=1∧16≤r∧r≤19)),()):=by
 unfold gp aB
 simp only[lg,aW,aa,iu,gH,eqI]
 congr 2
 rw[Bool.eq_iff_iff]
 unfold kM
 simp
theorem sc {r s:Int}(h:kM s):(0≤r∧r≤15∨s=1∧16≤r∧r≤19)↔regP r s:=by
 unfold regP
 rcases h with rfl|rfl|rfl|rfl
 ·rw[show(regL 1).length=20 from rfl];omega
 ·rw[show(regL 2).length=16 from rfl];omega
 ·rw[show(regL 4).length=16 from rfl];omega
 ·rw[show(regL 8).length=16 from rfl];omega
end Go.Den.G
namespace Go.Den.G
open Go.Den
theorem Bw {d:Int}(h:I64 d):cU ((d,(4,())),())=some (decide (-2147483648≤d∧d≤2147483647),()):=by
 unfold I64 at h
 unfold cU bo
 have e:aM .i64 64 (bf .i64 8 4)=32:=by decide
 simp only[e]
 rw[ah (by decide),ah (by decide),aa]
 congr 2
 unfold eqI ci cH
 rw[show min (32:Int).toNat (IntKind.bits .i64)=32 from by decide,IntKind.wrap_i64,Int.fdiv_eq_ediv_of_nonneg _ (by decide)]
 rw[Bool.eq_iff_iff]
 simp only[decide_eq_true_eq]
 omega
def qQ (k r b i s d m:Int):Prop:=k=2∧r=0∧m=0∧ -1≤b∧b≤16∧ -1≤i∧i≤15∧i≠4∧(s=1∨i≠ -1∧(s=2∨s=4∨s=8))∧(b≠16∨i= -1)∧ -2147483648≤d∧d≤2147483647
instance (k r b i s d m:Int):Decidable (qQ k r b i s d m):=by unfold qQ;infer_instance
theorem BM {k r b i s d m:Int}(h:I64 d):ct (((k,(r,(b,(i,(s,(d,(m,()))))))),()),())=some (decide (qQ k r b i s d m),()):=by
 unfold ct
 dsimp only[p5,p6]
 simp only[aW,Bw h,iu,gH,aa,eqI]
 congr 2
 rw[Bool.eq_iff_iff,decide_eq_true_eq]
 unfold qQ
 simp only[Bool.and_eq_true,Bool.or_eq_true,decide_eq_true_eq,eJ,decide_eq_false_iff_not]
 omega
def AU (k r b i s d m z:Int):Prop:=kM z∧
 (k=1∧b=0∧i=0∧s=0∧d=0∧m=0∧regP r z∨qQ k r b i s d m∨k=3∧r=0∧b=0∧i=0∧s=0∧d=0∨k=0∧r=0∧b=0∧i=0∧s=0∧d=0∧m=0)
instance (k r b i s d m z:Int):Decidable (AU k r b i s d m z):=by unfold AU;infer_instance
theorem jV {a b:Bool}:ir a b=true↔a=true∧b=true:=by cases a<;>cases b<;>simp[ir]
theorem sH {k r b i s d m z:Int}(h:I64 d):cx (((k,(r,(b,(i,(s,(d,(m,()))))))),(z,())),())=some (decide (AU k r b i s d m z),()):=by
 unfold cx ic ib
 dsimp only[p5,p6,d6]
 rw[lg,aa]
 dsimp only
 by_cases hz:kM z
 ·rw[decide_eq_true (show z=1∨z=2∨z=4∨z=8 from hz),cc,aw rfl]
  have hr:=sc (r:=r) hz
  by_cases h1:k=1
  ·subst h1
   rw[ah (bn rfl),aa]
   dsimp only
   rw[BO,aa]
   cases hc:ir (eqI 1 1) (ir (eqI r r) (ir (eqI b 0) (ir (eqI i 0) (ir (eqI s 0) (ir (eqI d 0) (eqI m 0))))))with
   |true=>
    rw[ah rfl]
    simp only[jV,dj]at hc
    congr 2
    rw[Bool.eq_iff_iff,decide_eq_true_eq,decide_eq_true_eq,hr]
    unfold AU qQ
    simp[hz,hc.2.2.1,hc.2.2.2.1,hc.2.2.2.2.1,hc.2.2.2.2.2.1,hc.2.2.2.2.2.2]
   |false=>
    rw[aw rfl]
    congr 2
    symm
    refine decide_eq_false fun ho=>?_
    have:ir (eqI 1 1) (ir (eqI r r) (ir (eqI b 0) (ir (eqI i 0) (ir (eqI s 0) (ir (eqI d 0) (eqI m 0))))))=true:=by
     unfold AU qQ at ho
     simp only[jV,dj]
     have h2:=ho.2
     simp at h2
     simp[h2]
    rw[this]at hc;cases hc
  ·rw[aw (aG h1)]
   by_cases h2:k=2
   ·subst h2
    rw[ah (bn rfl),BM h,aa]
    congr 2
    rw[Bool.eq_iff_iff,decide_eq_true_eq,decide_eq_true_eq]
    unfold AU
    simp[hz]
   ·rw[aw (aG h2)]
    by_cases h3:k=3
    ·subst h3
     rw[ah (bn rfl),aa]
     congr 2
     rw[Bool.eq_iff_iff,decide_eq_true_eq]
     simp only[jV,dj]
     unfold AU qQ
     simp[hz]
    ·rw[aw (aG h3)]
     congr 2
     rw[Bool.eq_iff_iff,decide_eq_true_eq]
     simp only[jV,dj]
     unfold AU qQ
     simp[hz,h1,h2,h3]
 ·rw[decide_eq_false (show ¬(z=1∨z=2∨z=4∨z=8)from hz),dp,ah rfl]
  congr 2
  symm
  exact decide_eq_false fun h=>hz h.1
theorem brF {α:Type}{c e:Bool}{u:α}:br c (some (false,u)) (some (e,u))=some (!c&&e,u):=by cases c<;>rfl
end Go.Den.G
namespace Go.Den.G
open Go.Den
set_option maxRecDepth 100000
def ripS:List UInt8:=[114,105,112]
def p1 (b:Int):List (List UInt8):=if b=16 then [ripS]else if 0≤b then [Dz b 8]else []
def p2 (i s:Int):List (List UInt8):=if 0≤i then [Dz i 8++[42]++Go.Lib.itoa s]else []
def p3 (d:Int)(q:List (List UInt8)):List (List UInt8):=if d≠0∨q=[]then [Go.Lib.itoa d]else []
theorem ut {α β:Type}{xs:List α}{ys:List β}(h1:xs.length≤1000)(h2:ys.length≤1000):eP xs ys=true:=j6 (by omega)
end Go.Den.G
namespace Go.Den.G
open Go.Den
theorem Di {n:Nat}(h:n<9223372036854775808):IntKind.i64.wrap (n:Int)=n:=dm ⟨by omega,by omega⟩
theorem sL (X M:BitVec 64):X&&& ~~~M=0#64↔X&&& M=X:=by
 constructor
 ·intro h
  apply BitVec.eq_of_getLsbD_eq
  intro i hi
  have:=congrArg (fun z:BitVec 64=>z.getLsbD i) h
  simp only[BitVec.getLsbD_and,BitVec.getLsbD_not,hi,decide_true,Bool.true_and,BitVec.getLsbD_zero]at this
  rw[BitVec.getLsbD_and]
  cases h1:X.getLsbD i<;>cases h2:M.getLsbD i<;>simp_all
 ·intro h
  apply BitVec.eq_of_getLsbD_eq
  intro i hi
  have:=congrArg (fun z:BitVec 64=>z.getLsbD i) h
  simp only[BitVec.getLsbD_and]at this
  simp only[BitVec.getLsbD_and,BitVec.getLsbD_not,hi,decide_true,Bool.true_and,BitVec.getLsbD_zero]
  cases h1:X.getLsbD i<;>cases h2:M.getLsbD i<;>simp_all
def bK (x:Int):Bool:=eqI (fR .i64 x 2245) 0
theorem iandn64 (x:Int):fR .i64 x 2245=IntKind.i64.wrap ((BitVec.ofInt 64 x&&& ~~~2245#64).toNat:Int):=rfl
theorem iand64 (x:Int):dl .i64 x 2245=IntKind.i64.wrap ((BitVec.ofInt 64 x&&& 2245#64).toNat:Int):=rfl
theorem wi {x:Int}(h:I64 x):(decide (0≤x)&&eqI (dl .i64 x 2245) x)=bK x:=by
 unfold I64 at h
 unfold bK eqI
 rw[iandn64,iand64]
 generalize hX:BitVec.ofInt 64 x=X
 have hXi:X.toInt=x:=by rw[←hX,BitVec.toInt_ofInt];rw[Int.bmod_def];split<;>omega
 have hle:(X&&& 2245#64).toNat≤2245:=by rw[BitVec.toNat_and];exact Nat.and_le_right
 have hw1:IntKind.i64.wrap ((X&&& 2245#64).toNat:Int)=(X&&& 2245#64).toNat:=Di (by omega)
 have hz:IntKind.i64.wrap ((X&&& ~~~2245#64).toNat:Int)=0↔X&&& ~~~2245#64=0#64:=by
  have hlt:(X&&& ~~~2245#64).toNat<2^64:=BitVec.isLt _
  rw[IntKind.wrap_i64]
  constructor
  ·intro e
   apply BitVec.eq_of_toNat_eq
   rw[BitVec.toNat_zero]
   omega
  ·intro e;rw[e,BitVec.toNat_zero];decide
 rw[Bool.eq_iff_iff]
 simp only[Bool.and_eq_true,decide_eq_true_eq]
 rw[hw1,hz,sL]
 have hXn:(X.toNat:Int)=x∨(X.toNat:Int)=x+18446744073709551616:=by
  rw[BitVec.toInt_eq_toNat_cond]at hXi
  split at hXi<;>omega
 constructor
 ·rintro⟨h0,e⟩
  apply BitVec.eq_of_toNat_eq
  have:=X.isLt
  omega
 ·intro e
  rw[e]at hle⊢
  omega
theorem AX {c:List Int}{p f:Int}:gk (((c,(p,(f,()))),()),())=some (bK f,()):=by
 unfold gk fi
 rfl
theorem Ai {c:List Int}{p f:Int}(h:I64 f):gw (((c,(p,(f,()))),()),())=some (bK f,()):=by
 unfold gw fj
 dsimp only
 rw[gH,aa]
 have:=wi h
 unfold leI
 rw[this]
 rfl
end Go.Den.G
namespace Go.Den.G
open Go.Den
set_option maxRecDepth 100000
theorem y4 {f:Int}(hI:I64 f)(h:bK f=true):∃u:Nat,u<2246∧f=u∧u&&& 2245=u:=by
 rw[←wi hI,Bool.and_eq_true,decide_eq_true_eq,dj]at h
 obtain⟨h0,h1⟩:=h
 obtain⟨u,rfl⟩:=Int.eq_ofNat_of_zero_le h0
 have e:=oo (u:Int) 2245
 rw[h1,ew (by unfold I64 at hI;omega),show uns 2245=2245 from rfl]at e
 refine⟨u,?_,rfl,e.symm⟩
 have:u&&& 2245≤2245:=Nat.and_le_right
 omega
def flK (u:Nat):Bool:=u&&& 2245 != u||(fR .i64 (u:Int) 2049==dl .i64 (u:Int) 196)
theorem flK_all:∀u:Nat,u<2246→flK u=true:=by decide +kernel
theorem y3 {f:Int}(hI:I64 f)(h:bK f=true):fR .i64 f 2049=dl .i64 f 196:=by
 obtain⟨u,hu,rfl,hm⟩:=y4 hI h
 have:=flK_all u hu
 unfold flK at this
 rw[hm]at this
 simpa using this
def mkF (s z p:Bool):Int:=ior .i64 (ior .i64 (if s=true then 128 else 0) (if z=true then 64 else 0)) (if p=true then 4 else 0)
def mkG (k:Int)(c o:Bool):Int:=ior .i64 (ior .i64 k (if c=true then 1 else 0)) (if o=true then 2048 else 0)
theorem sq (n:Nat)(v:Int):uw n v=mkF (jY v (8*n-1)) (decide (bL v n=0)) (CS v):=by
 unfold uw mkF;simp only[decide_eq_true_eq]
theorem ri (n:Nat)(v:Int)(c i:Bool):addF n v c i=mkG (mkF (jY v (8*n-1)) (decide (bL v n=0)) (CS v)) c (c != i):=by
 unfold addF mkG;rw[sq]
theorem Cj (s z p:Bool):fR .i64 (mkF s z p) 2049=mkF s z p:=by cases s<;>cases z<;>cases p<;>decide
theorem mkF_ok (s z p:Bool):bK (mkF s z p)=true∧I64 (mkF s z p):=by cases s<;>cases z<;>cases p<;>decide
theorem zR (s z p c o:Bool):bK (mkG (mkF s z p) c o)=true∧I64 (mkG (mkF s z p) c o):=by cases s<;>cases z<;>cases p<;>cases c<;>cases o<;>decide
def flL (u:Nat)(c o:Bool):Bool:=u&&& 2245 != u||(bK (mkG (dl .i64 (u:Int) 196) c o)&&decide (I64 (mkG (dl .i64 (u:Int) 196) c o)))
theorem flL_all:∀u:Nat,u<2246→(flL u false false&&flL u false true&&flL u true false&&flL u true true)=true:=by decide +kernel
theorem keep_ok {f:Int}(hI:I64 f)(h:bK f=true)(c o:Bool):bK (mkG (dl .i64 f 196) c o)=true∧I64 (mkG (dl .i64 f 196) c o):=by
 obtain⟨u,hu,rfl,hm⟩:=y4 hI h
 have:=flL_all u hu
 simp only[Bool.and_eq_true]at this
 obtain⟨⟨⟨h1,h2⟩,h3⟩,h4⟩:=this
 unfold flL at h1 h2 h3 h4
 rw[hm]at h1 h2 h3 h4
 simp only[bne_self_eq_false,Bool.false_or,Bool.and_eq_true,decide_eq_true_eq]at h1 h2 h3 h4
 cases c<;>cases o
 ·exact h1
 ·exact h2
 ·exact h3
 ·exact h4
def oneF (d f:Int):Int:=ior .i64 (fR .i64 d 1) (dl .i64 f 1)
theorem z3 (s z p c o:Bool)(f:Int):bK (oneF (mkG (mkF s z p) c o) f)=true∧I64 (oneF (mkG (mkF s z p) c o) f):=by
 unfold oneF
 rw[BF]
 have:f%2=0∨f%2=1:=by omega
 rcases this with h|h<;>rw[h]<;>cases s<;>cases z<;>cases p<;>cases c<;>cases o<;>decide
theorem jv (a b:Int):I64 (ior .i64 a b):=aD _
theorem AZ (a b:Int):I64 (dl .i64 a b):=aD _
theorem mf (a b:Int):I64 (oX .i64 a b):=aD _
theorem vT (n:Nat)(a b:Int)(c:Nat):I64 (sE n a b c).1∧bK (sE n a b c).2=true∧I64 (sE n a b c).2:=by
 unfold sE;dsimp only;rw[ri];exact⟨jk _ _,zR ..⟩
theorem pX (n:Nat)(a b:Int)(c:Nat):I64 (q8 n a b c).1∧bK (q8 n a b c).2=true∧I64 (q8 n a b c).2:=by
 unfold q8;dsimp only;rw[ri];exact⟨jk _ _,zR ..⟩
theorem AB (n:Nat)(v:Int):bK (uw n v)=true∧I64 (uw n v):=by rw[sq];exact mkF_ok ..
theorem yt {op a b f:Int}{n:Nat}(hn:bX (n:Int)=true)(ha:I64 a):I64 (uK op n a b f).1∧bK (uK op n a b f).2=true∧I64 (uK op n a b f).2:=by
 unfold uK
 have hl:=dR ha hn
 have hw:I64 (kk op (bL a n) (bL b n)):=by
  unfold kk
  split
  ·exact jv ..
  ·split
   ·exact mf ..
   ·exact AZ ..
 split
 ·exact vT ..
 split
 ·exact vT ..
 split
 ·exact pX ..
 split
 ·exact pX ..
 split
 ·exact⟨hl,(pX ..).2⟩
 split
 ·exact⟨hl,AB ..⟩
 ·exact⟨hw,AB ..⟩
def vA (op:Int)(n:Nat)(a f:Int):Int×Int:=
 if op=11 then(bL (uF .i64 (bL a n)) n,f)
 else if op=12 then q8 n 0 (bL a n) 0
 else if op=19 then((q8 n (bL a n) 1 0).1,oneF (q8 n (bL a n) 1 0).2 f)
 else((sE n (bL a n) 1 0).1,oneF (sE n (bL a n) 1 0).2 f)
theorem vm {n:Nat}(hn:bX (n:Int)=true):nk 1 n:=by
 rcases uG hn with rfl|rfl|rfl|rfl<;>exact⟨rfl,by decide⟩
theorem zM {n:Nat}(hn:bX (n:Int)=true):nk 0 n:=by
 rcases uG hn with rfl|rfl|rfl|rfl<;>exact⟨rfl,by decide⟩
theorem one_eq {op a f:Int}{n:Nat}(hn:bX (n:Int)=true)(ha:I64 a):iJ ((op,(n:Int),a,f,()),())=some (((vA op n a f).1,(vA op n a f).2,()),()):=by
 have oa:=kF ha hn
 have s1:=Ax (c:=0) hn oa (vm hn) (by decide)
 have d1:=iE (c:=0) hn oa (vm hn) (by decide)
 have d0:=iE (c:=0) hn (zM hn) oa (by decide)
 rw[show((0:Nat):Int)=0 from rfl]at s1 d0 d1
 unfold iJ vA
 dsimp only
 rw[bB _ n hn,aa]
 dsimp only
 rw[s1,d1,d0]
 by_cases h11:op=11
 ·rw[ah (bn h11),if_pos h11,bB _ n hn,aa]
 rw[aw (aG h11),if_neg h11]
 by_cases h12:op=12
 ·rw[ah (bn h12),if_pos h12,aa]
 rw[aw (aG h12),if_neg h12,aa]
 by_cases h19:op=19
 ·rw[ah (bn h19),if_pos h19,aa,aa,ar]
  rfl
 rw[aw (aG h19),if_neg h19,aa,ar]
 rfl
theorem z4 {op a f:Int}{n:Nat}(hn:bX (n:Int)=true)(hI:I64 f)(hf:bK f=true):I64 (vA op n a f).1∧bK (vA op n a f).2=true∧I64 (vA op n a f).2:=by
 unfold vA
 split
 ·exact⟨dR (mf _ _) hn,hf,hI⟩
 split
 ·exact pX ..
 split
 ·refine⟨(pX ..).1,?_⟩
  unfold q8;dsimp only;rw[ri];exact z3 ..
 ·refine⟨(vT ..).1,?_⟩
  unfold sE;dsimp only;rw[ri];exact z3 ..
end Go.Den.G
namespace Go.Den.G
open Go.Den
set_option maxRecDepth 100000
def tW (op:Int)(m u:Nat):Nat:=
 if op=20 then(2*u)%2^m+u/2^(m-1)
 else if op=22 then(2*u)%2^m
 else if op=23 then u/2
 else if op=24 then u/2+(u/2^(m-1))*2^(m-1)
 else u/2+(u%2)*2^(m-1)
def il (op:Int)(n:Nat)(a:Int):Int:=lB (tW op (8*n) (bV a n)) n
def vw (op:Int)(n:Nat)(a:Int):Bool:=if op=20∨op=22 then jY a (8*n-1)else jY a 0
def vz (op:Int)(n:Nat)(a:Int):Bool:=
 if op=20∨op=22 then jY (il op n a) (8*n-1) != jY a (8*n-1)
 else if op=23 then jY a (8*n-1)else if op=24 then false else jY (il op n a) (8*n-1) != jY (il op n a) (8*n-2)
def xP (op:Int)(n:Nat)(a f:Int):Int:=if op=20∨op=21 then dl .i64 f 196 else uw n (il op n a)
def pD (op:Int)(n:Nat)(a f:Int):Int×Int:=(il op n a,mkG (xP op n a f) (vw op n a) (vz op n a))
theorem wG {op:Int}{m u:Nat}(hm:1≤m)(hu:u<2^m):tW op m u<2^m:=by
 obtain⟨k,rfl⟩:∃k,m=k+1:=⟨m-1,by omega⟩
 unfold tW
 rw[show k+1-1=k by omega]
 rw[Nat.pow_succ]at*
 have hp:0<2^k:=Nat.two_pow_pos k
 generalize 2^k=P at*
 have h2:u/P<2:=by rw[Nat.div_lt_iff_lt_mul hp];omega
 have h3:(2*u)%(P*2)=2*(u%P):=by rw[Nat.mul_comm P 2,Nat.mul_mod_mul_left]
 have h4:=Nat.mod_lt u hp
 have h5:u/P=0∨u/P=1:=by generalize u/P=q at *;omega
 split
 ·rw[h3];generalize u/P=q at *;generalize u%P=r at *;omega
 split
 ·rw[h3];generalize u%P=r at *;omega
 split
 ·omega
 split
 ·rcases h5 with h|h<;>rw[h]
  ·omega
  ·omega
 ·have:u%2=0∨u%2=1:=by omega
  rcases this with h|h<;>rw[h]<;>omega
theorem ja (op:Int){n:Nat}(hn:bX (n:Int)=true)(a:Int):uns (il op n a)=tW op (8*n) (bV a n):=by
 obtain⟨h1,h8⟩:=di hn
 unfold il
 rw[lx _ _ h8,Nat.mod_eq_of_lt (wG (by omega) (fQ a n))]
theorem fq (op:Int)(n:Nat)(a:Int):I64 (il op n a):=jk _ _
theorem AD (a:Int):uns (cH .i64 a 1)=(2*uns a)%2^64:=by
 unfold cH
 rw[bM]
 show uns (a*2^1)=_
 unfold uns;omega
theorem Df (b:Bool){k:Nat}(hk:k<2^64):uns (if b=true then(k:Int)else 0)=if b=true then k else 0:=by
 cases b
 ·rfl
 ·exact ew hk
theorem DF {x:Nat}(h:x%2=0)(b:Bool):x|||(if b=true then 1 else 0)=x+(if b=true then 1 else 0):=by
 obtain⟨y,rfl⟩:∃y,x=2^1*y:=⟨x/2,by omega⟩
 cases b
 ·simp
 ·rw[if_pos rfl,←Nat.two_pow_add_eq_or_of_lt (i:=1) (by decide) y]
theorem DG {x k:Nat}(h:x<2^k)(b:Bool):x|||(if b=true then 2^k else 0)=x+(if b=true then 1 else 0)*2^k:=by
 cases b
 ·simp
 ·rw[if_pos rfl,if_pos rfl,Nat.or_comm]
  have:=Nat.two_pow_add_eq_or_of_lt h 1
  rw[Nat.mul_one]at this
  rw[←this];omega
theorem Be (a:Int)(n:Nat)(hn:1≤n):bV a n%2=if jY a 0=true then 1 else 0:=by
 rw[iC (n:=n) (k:=0) (by omega),Nat.pow_zero,Nat.div_one]
 by_cases h:bV a n%2=1
 ·rw[decide_eq_true h,h];rfl
 ·rw[decide_eq_false h,if_neg (by decide)];omega
theorem v9 (a:Int)(n:Nat)(hn:1≤n):bV a n/2^(8*n-1)=if jY a (8*n-1)=true then 1 else 0:=by
 rw[iC (n:=n) (k:=8*n-1) (by omega)]
 have h2:bV a n/2^(8*n-1)<2:=by
  rw[Nat.div_lt_iff_lt_mul (Nat.two_pow_pos _),Nat.mul_comm,←Nat.pow_succ,show(8*n-1).succ=8*n by omega]
  exact fQ a n
 generalize bV a n/2^(8*n-1)=q at*
 have:q=0∨q=1:=by omega
 rcases this with rfl|rfl<;>rfl
theorem zN (a:Int):eqI (dl .i64 a 1) 1=jY a 0:=by
 rw[BF];unfold eqI jY
 rw[Bool.eq_iff_iff,decide_eq_true_eq,decide_eq_true_eq];omega
theorem An {v:Int}:ak .i64 (ci .u64 (ak .u64 v) 1)=lB (uns v/2) 8:=by
 rw[dP]
 unfold ci ak lB
 show IntKind.wrap .i64 (Int.fdiv (uns v:Int) (2^1))=_
 rw[Int.fdiv_eq_ediv_of_nonneg _ (by decide)]
 have:=dQ v
 have e:((uns v:Nat):Int)/2^1=((uns v/2%2^(8*8):Nat):Int):=by
  rw[Nat.mod_eq_of_lt (by omega)];omega
 rw[e]
theorem za {n:Nat}(hn:bX (n:Int)=true):∃h:Int,cH .i64 1 (8*(n:Int)-1)=h∧uns h=2^(8*n-1)∧∀b:Bool,uns (if b=true then h else 0)=if b=true then 2^(8*n-1)else 0:=by
 refine⟨_,rfl,?_,fun b=>?_⟩
 ·rcases uG hn with rfl|rfl|rfl|rfl<;>decide
 ·rcases uG hn with rfl|rfl|rfl|rfl<;>cases b<;>decide
theorem neB (a b:Bool):aX (eqB a b)=(a != b):=by cases a<;>cases b<;>rfl
theorem cf {v:Int}(hv:I64 v){n:Nat}(hn:bX (n:Int)=true):uns (bL v n)=bV v n:=by
 rw[gM hv hn,lx _ _ (di hn).2];exact Nat.mod_eq_of_lt (fQ v n)
theorem tN {a:Int}{n:Nat}(hn:bX (n:Int)=true)(ea:uns a=bV a n):bV (cH .i64 a 1) n=2*bV a n%2^(8*n):=by
 have h8:=(di hn).2
 rw[←ea]
 unfold bV
 rw[AD,Nat.mod_mod_of_dvd]
 exact⟨2^(64-8*n),by rw[←Nat.pow_add,show 8*n+(64-8*n)=64 by omega]⟩
theorem y7 {u n:Nat}(hn:1≤n)(hu:u<2^(8*n)):u/2<2^(8*n-1):=by
 have:(2:Nat)^(8*n)=2^(8*n-1)*2:=by rw[←Nat.pow_succ,show(8*n-1).succ=8*n by omega]
 omega
theorem Bp {u n:Nat}(hn:1≤n):2*u%2^(8*n)%2=0:=by
 have:(2:Nat)^(8*n)=2^(8*n-1)*2:=by rw[←Nat.pow_succ,show(8*n-1).succ=8*n by omega]
 have h:=Nat.mul_mod_mul_left 2 u (2^(8*n-1))
 rw[this,Nat.mul_comm _ 2,h];omega
theorem uo {op a f:Int}{n:Nat}(hop:20≤op∧op≤24)(hn:bX (n:Int)=true)(ha:nk a n)(hI:I64 f)(hf:bK f=true):
  dr ((op,(n:Int),a,f,()),())=some (((pD op n a f).1,(pD op n a f).2,()),()):=by
 obtain⟨h1,h8⟩:=di hn
 have ea:=zO hn ha
 unfold dr
 dsimp only[p5,p6,p7,p8,p9,p10]
 rw[pY n h1 h8,aa]
 dsimp only
 rw[eI (by omega) (by omega),eu (by omega) (by omega),ah (fv (by omega)),zN]
 obtain⟨H,hH,hHu,hHb⟩:=za hn
 rw[hH]
 refine(Ret.bnd (Q:=fun y=>y=Sum.inl ((op,(n:Int),a,f,jY a (8*n-1),jY a 0,H,jY a 0,false,op,eqI op 22||eqI op 20,()),())) ?_ ?_).eq
 ·cases eqI op 22
  ·exact Ret.some rfl
  ·exact Ret.some rfl
 rintro _ rfl
 rw[ar]
 dsimp only
 have hl:=fQ a n
 have hlz:I64 (cH .i64 a 1):=aD _
 have u8:uns (lB (uns a/2) 8)=bV a n/2:=by
  rw[lx _ _ (by decide),ea]
  have:=dQ a
  rw[ea]at this
  exact Nat.mod_eq_of_lt (by omega)
 refine Ret.bnd (Q:=fun y=>y=Sum.inl ((op,(n:Int),f,il op n a,vw op n a,vz op n a,()),())) ?_ ?_
 ·have hcase:op=20∨op=21∨op=22∨op=23∨op=24:=by omega
  rcases hcase with rfl|rfl|rfl|rfl|rfl
  ·have hv:ior .i64 (bL (cH .i64 a 1) n) (if jY a (8*n-1)=true then 1 else 0)=il 20 n a:=by
    refine iw (jv _ _) (fq ..) ?_
    rw[kR,cf hlz hn,tN hn ea,ja 20 hn,show(1:Int)=((1:Nat):Int)from rfl,Df _ (by decide),DF (Bp h1)]
    show _=2*bV a n%2^(8*n)+bV a n/2^(8*n-1)
    rw[v9 a n h1]
   rw[show(eqI 20 22||eqI 20 20)=true from rfl,aR,bB _ n hn,aa,show eqI 20 20=true from rfl,aR,gf,aa,aa,ar]
   dsimp only
   rw[hv,pY n h1 h8,aa,neB]
   exact Ret.some rfl
  ·have hv:ior .i64 (lB (uns a/2) 8) (if jY a 0=true then H else 0)=il 21 n a:=by
    refine iw (jv _ _) (fq ..) ?_
    rw[kR,u8,ja 21 hn,hHb,DG (y7 h1 hl)]
    show _=bV a n/2+bV a n%2*2^(8*n-1)
    rw[Be a n h1]
   rw[show(eqI 21 22||eqI 21 20)=false from rfl,ap,show eqI 21 23=false from rfl,ap,show eqI 21 24=false from rfl,ap,gf,aa]
   dsimp only
   rw[An,hv,eI (by omega) (by omega),eu (by omega) (by omega),ah (fv (by omega)),pY n h1 h8,aa,aa,ar,aa,ar]
   rw[show 8*(n:Int)-2=((8*n-2:Nat):Int)by omega,Ap _ (by omega),neB]
   exact Ret.some rfl
  ·have hv:bL (cH .i64 a 1) n=il 22 n a:=by
    refine iw (dR hlz hn) (fq ..) ?_
    rw[cf hlz hn,tN hn ea,ja 22 hn]
    unfold tW
    rw[if_neg (by decide),if_pos rfl]
   rw[show(eqI 22 22||eqI 22 20)=true from rfl,aR,bB _ n hn,aa,show eqI 22 20=false from rfl,ap,aa,ar]
   dsimp only
   rw[hv,pY n h1 h8,aa,neB]
   exact Ret.some rfl
  ·have hv:lB (uns a/2) 8=il 23 n a:=by
    refine iw (jk ..) (fq ..) ?_
    rw[u8,ja 23 hn]
    unfold tW
    rw[if_neg (by decide),if_neg (by decide),if_pos rfl]
   rw[show(eqI 23 22||eqI 23 20)=false from rfl,ap,show eqI 23 23=true from rfl,aR,aa,ar,An,hv]
   exact Ret.some rfl
  ·have hv:ior .i64 (lB (uns a/2) 8) (if jY a (8*n-1)=true then H else 0)=il 24 n a:=by
    refine iw (jv _ _) (fq ..) ?_
    rw[kR,u8,ja 24 hn,hHb,DG (y7 h1 hl)]
    show _=bV a n/2+bV a n/2^(8*n-1)*2^(8*n-1)
    rw[v9 a n h1]
   rw[show(eqI 24 22||eqI 24 20)=false from rfl,ap,show eqI 24 23=false from rfl,ap,show eqI 24 24=true from rfl,aR,gf,aa,aa,ar,aa,ar]
   dsimp only
   rw[An,hv]
   exact Ret.some rfl
 rintro _ rfl
 rw[ar]
 dsimp only
 refine Ret.bnd (Q:=fun y=>y=(eqI op 22||eqI op 23)) ?_ ?_
 ·cases eqI op 22
  ·exact Ret.some rfl
  ·exact Ret.some rfl
 rintro _ rfl
 refine Ret.bnd (Q:=fun y=>y=(eqI op 22||eqI op 23||eqI op 24)) ?_ ?_
 ·cases (eqI op 22||eqI op 23)
  ·exact Ret.some rfl
  ·exact Ret.some rfl
 rintro _ rfl
 have hrot:(eqI op 22||eqI op 23||eqI op 24)= !decide (op=20∨op=21):=by
  rw[Bool.eq_iff_iff]
  simp only[eqI,Bool.or_eq_true,decide_eq_true_eq,Bool.not_eq_true',decide_eq_false_iff_not];omega
 rw[hrot]
 refine Ret.bnd (Q:=fun y=>∃k,y=Sum.inl ((il op n a,vw op n a,vz op n a,k,()),())∧fR .i64 k 2049=xP op n a f) ?_ ?_
 ·unfold xP
  by_cases hr:op=20∨op=21
  ·rw[decide_eq_true hr,if_pos hr]
   exact Ret.some ⟨f,rfl,y3 hI hf⟩
  ·rw[decide_eq_false hr,if_neg hr]
   show Ret (bnd _ _) _
   rw[gW n hn,aa]
   exact Ret.some ⟨_,rfl,by rw[sq,Cj]⟩
 rintro _ ⟨k,rfl,hk⟩
 rw[ar]
 dsimp only
 rw[gf,aa,gf,aa]
 dsimp only
 rw[hk]
 exact Ret.some rfl
theorem wF {op a f:Int}{n:Nat}(hn:bX (n:Int)=true)(hI:I64 f)(hf:bK f=true):nk (pD op n a f).1 n∧bK (pD op n a f).2=true∧I64 (pD op n a f).2:=by
 unfold pD
 dsimp only
 refine⟨⟨?_,fq ..⟩,?_⟩
 ·rw[gM (fq ..) hn]
  refine iw (jk ..) (fq ..) ?_
  rw[lx _ _ (di hn).2,Nat.mod_eq_of_lt (fQ _ _)]
  unfold bV
  rw[ja op hn,Nat.mod_eq_of_lt (wG (by have:=di hn;omega) (fQ a n))]
 ·unfold xP
  split
  ·exact keep_ok hI hf _ _
  ·rw[sq];exact zR ..
def oW (op:Int)(n:Nat):Nat→Int×Int→Int×Int
 |0,x=>x
 |k+1,x=>oW op n k (pD op n x.1 x.2)
theorem wt {op:Int}{n:Nat}(hn:bX (n:Int)=true):∀(k:Nat) (x:Int×Int),nk x.1 n→bK x.2=true→I64 x.2→nk (oW op n k x).1 n∧bK (oW op n k x).2=true∧I64 (oW op n k x).2
 |0,x,h1,h2,h3=>⟨h1,h2,h3⟩
 |k+1,x,_,h2,h3=>by
  have:=wF (op:=op) (a:=x.1) hn h3 h2
  exact wt hn k _ this.1 this.2.1 this.2.2
def vL (n:Nat)(k:Int):Nat:=if n=8 then(k%64).toNat else(k%32).toNat
def ip (op:Int)(n:Nat)(a k f:Int):Int×Int:=oW op n (vL n k) (bL a n,f)
theorem cnt_eq {n:Nat}(hn:bX (n:Int)=true)(k:Int):dl .i64 k (ax .i64 31 (if eqI (n:Int) 8=true then 32 else 0))=(vL n k:Int):=by
 unfold vL
 by_cases h:n=8
 ·subst h
  rw[show eqI ((8:Nat):Int) 8=true from rfl,if_pos rfl,if_pos rfl,show ax .i64 31 32=2^6-1 from by decide,nW k 6 (by decide)]
  show k%64=_
  omega
 ·rw[show eqI (n:Int) 8=false from aG (by omega),if_neg (by decide),if_neg h,show ax .i64 31 0=2^5-1 from by decide,nW k 5 (by decide)]
  show k%32=_
  omega
theorem shc_lt (n:Nat)(k:Int):vL n k<64:=by unfold vL;split<;>omega
theorem C5 {op a k f:Int}{n:Nat}(hop:20≤op∧op≤24)(hn:bX (n:Int)=true)(ha:I64 a)(hI:I64 f)(hf:bK f=true):
  gt ((op,(n:Int),a,k,f,()),())=some (((ip op n a k f).1,(ip op n a k f).2,()),()):=by
 unfold gt ip
 dsimp only
 rw[bB _ n hn,aa,gf,aa]
 dsimp only
 rw[cnt_eq hn]
 have hc:=shc_lt n k
 generalize vL n k=c at hc⊢
 dsimp only[p5]
 refine(Ret.iter (fun y=>∃(i:Nat) (z:Int×Int),i≤c∧nk z.1 n∧bK z.2=true∧I64 z.2∧oW op n (c-i) z=oW op n c (bL a n,f)∧y=((op,(n:Int),z.1,z.2,(c:Int),(i:Int),()),())) (fun y=>c-y.1.2.2.2.2.2.1.toNat)
  ?_ F _ ⟨0,(bL a n,f),by omega,kF ha hn,hf,hI,rfl,rfl⟩ (by unfold F;dsimp only;omega)).eq
 rintro _ rec ⟨i,z,hi,hz,hzf,hzI,he,rfl⟩ hrec
 dsimp only
 by_cases h:i<c
 ·rw[ah (gY (by omega)),uo hop hn hz hzI hzf,aa,bS (by omega) (by omega)]
  have ok:=wF (op:=op) (a:=z.1) hn hzI hzf
  refine hrec _ ⟨i+1,pD op n z.1 z.2,by omega,ok.1,ok.2.1,ok.2.2,?_,rfl⟩ (by dsimp only;omega)
  rw[←he,show c-i=(c-(i+1))+1 by omega];rfl
 ·have:i=c:=by omega
  subst this
  rw[aw (gA (by omega))]
  rw[Nat.sub_self]at he
  refine Ret.some ?_
  rw[←he];rfl
theorem um {op a k f:Int}{n:Nat}(hn:bX (n:Int)=true)(ha:I64 a)(hI:I64 f)(hf:bK f=true):I64 (ip op n a k f).1∧bK (ip op n a k f).2=true∧I64 (ip op n a k f).2:=by
 have:=wt (op:=op) hn (vL n k) (bL a n,f) (kF ha hn) hf hI
 exact⟨this.1.2,this.2⟩
end Go.Den.G
namespace Go.Den.G
open Go.Den
set_option maxRecDepth 100000
theorem i9 (m:Nat):((2^m:Nat):Int)=(2:Int)^m:=by simp
theorem yq (a b:Int):ax .u64 a b=(a+b)%18446744073709551616:=by unfold ax;exact ez
theorem mulU (a b:Int):bf .u64 a b=(a*b)%18446744073709551616:=by unfold bf;exact ez
theorem subU (a b:Int):aM .u64 a b=(a-b)%18446744073709551616:=by unfold aM;exact ez
theorem pT (x:Int)(k:Nat)(hk:k≤64):ci .u64 x (k:Int)=x/2^k:=by
 unfold ci
 rw[Int.toNat_natCast,show min k IntKind.u64.bits=k by simp[IntKind.bits];omega]
 rw[Int.fdiv_eq_ediv_of_nonneg _ (Int.le_of_lt (Int.pow_pos (by decide)))]
theorem wO (x:Int)(k:Nat)(hk:k≤64):cH .u64 x (k:Int)=x*2^k%18446744073709551616:=by
 unfold cH
 rw[Int.toNat_natCast,show min k IntKind.u64.bits=k by simp[IntKind.bits];omega]
 exact ez
theorem v3 {x:Int}(h0:0≤x)(h1:x<18446744073709551616):dl .u64 x 4294967295=x%4294967296:=by
 unfold dl
 rw[ez]
 have:(BitVec.ofInt IntKind.u64.bits x&&& BitVec.ofInt IntKind.u64.bits 4294967295).toNat=(x%4294967296).toNat:=by
  rw[BitVec.toNat_and]
  have e1:(BitVec.ofInt IntKind.u64.bits x).toNat=x.toNat:=by
   show(BitVec.ofInt 64 x).toNat=x.toNat
   rw[BitVec.toNat_ofInt];omega
  rw[e1]
  show x.toNat&&& (2^32-1)=_
  rw[Nat.and_two_pow_sub_one_eq_mod];omega
 rw[this];omega
theorem A4 {x y:Int}(hx0:0≤x)(hx:x<18446744073709551616)(hy0:0≤y)(hy:y<18446744073709551616):dg ((x,y,()),())=some ((x*y/18446744073709551616,x*y%18446744073709551616,()),()):=by
 unfold dg
 dsimp only
 have h:=mul64_arith x y hx0 hx hy0 hy
 have s32:∀z,ci .u64 z 32=z/4294967296:=fun z=>pT z 32 (by decide)
 have m0:∀z:Int,0≤z%18446744073709551616∧z%18446744073709551616<18446744073709551616:=fun z=>by omega
 simp only[s32,mulU,yq]
 rw[v3 hx0 hx,v3 hy0 hy,v3 (m0 _).1 (m0 _).2,h]
theorem qt {a b:Int}:c7 ((a,b,()),())=some ((lB (uns a*uns b/18446744073709551616) 8,lB (uns a*uns b) 8,()),()):=by
 have ha:=dQ a
 have hb:=dQ b
 unfold c7
 dsimp only
 rw[dP,dP,A4 (by omega) (by omega) (by omega) (by omega),aa]
 have e1:ak .i64 (((uns a:Nat):Int)*((uns b:Nat):Int)/18446744073709551616)=lB (uns a*uns b/18446744073709551616) 8:=by
  unfold lB ak
  have:uns a*uns b/18446744073709551616<2^(8*8):=by
   rw[Nat.div_lt_iff_lt_mul (by decide)]
   calc uns a*uns b<2^64*2^64:=Nat.mul_lt_mul'' ha hb
    _=_:=by decide
  rw[Nat.mod_eq_of_lt this]
  congr 1
 have e2:ak .i64 (((uns a:Nat):Int)*((uns b:Nat):Int)%18446744073709551616)=lB (uns a*uns b) 8:=by
  unfold lB ak
  congr 1
 dsimp only
 rw[e1,e2]
theorem sx_bdA (m:Nat)(hm:m≤63)(v:Int): -(2:Int)^m≤sx m v∧sx m v<2^m:=by
 unfold sx
 have hp:(0:Int)<2^(m+1):=Int.pow_pos (by decide)
 have h1:=Int.emod_nonneg v (Int.ne_of_gt hp)
 have h2:=Int.emod_lt_of_pos v hp
 have hd:(2:Int)^(m+1)=2^m*2:=Int.pow_succ 2 m
 have hb:v%2^64/2^m%2=v%2^(m+1)/2^m:=by
  have h64:(2:Int)^(m+1)*2^(63-m)=2^64:=by rw[←Int.pow_add];congr 1;omega
  have h1:v%2^(m+1)=v%2^64%2^(m+1):=by
   rw[Int.emod_emod_of_dvd]
   exact⟨2^(63-m),h64.symm⟩
  rw[h1,Int.pow_succ 2 m]
  have hu:=bc v
  rw[←hu]
  rw[←i9 m]
  have h2:((2^m:Nat):Int)*2=((2^m*2:Nat):Int):=by simp
  rw[h2]
  rw[←Int.natCast_ediv,←Int.natCast_emod,←Int.natCast_ediv,Nat.mod_mul_right_div_self]
  simp
 rw[hb]
 have hpm:(0:Int)<2^m:=Int.pow_pos (by decide)
 generalize v%2^(m+1)=r at*
 by_cases hs:(2:Int)^m≤r
 ·have hq:r/2^m=1:=by
   rw[Int.ediv_eq_iff_of_pos hpm];omega
  rw[hq,if_pos rfl];omega
 ·have hq:r/2^m=0:=Int.ediv_eq_zero_of_lt h1 (by omega)
  rw[hq,if_neg (by decide)];omega
def lA (sg:Bool)(n:Nat)(a:Int):Int:=if sg=true then sx (8*n-1) a else(bV a n:Int)
def jE (n:Nat)(z:Int):Int:=IntKind.wrap .i64 (z%2^(8*n))
def tR (sg:Bool)(n:Nat)(a b:Int):Int:=jE n (lA sg n a*lA sg n b)
def lX (sg:Bool)(n:Nat)(a b:Int):Int:=jE n (lA sg n a*lA sg n b/2^(8*n))
def zS (sg:Bool)(n:Nat)(a b:Int):Bool:=if sg=true then sx (8*n-1) (lX sg n a b) != ci .i64 (sx (8*n-1) (tR sg n a b)) 63 else lX sg n a b != 0
def pp (op:Int)(n:Nat)(a b f:Int):Int×Int×Int:=
 (tR (decide (op≠13)) n a b,lX (decide (op≠13)) n a b,ior .i64 (dl .i64 f 196) (if zS (decide (op≠13)) n a b=true then 2049 else 0))
theorem iq (n:Nat)(z:Int):I64 (jE n z):=aD _
theorem uA (n:Nat)(hn:n≤8)(z:Int):uns (jE n z)=(z%2^(8*n)).toNat:=by
 unfold jE
 rw[bM]
 have hp:(0:Int)<2^(8*n):=Int.pow_pos (by decide)
 have h1:=Int.emod_nonneg z (Int.ne_of_gt hp)
 have h2:=Int.emod_lt_of_pos z hp
 have h3:(2:Int)^(8*n)≤2^64:=by
  have:=Nat.pow_le_pow_right (show 0<2 by decide) (show 8*n≤64 by omega)
  have e1:=i9 (8*n)
  rw[←e1];exact Int.ofNat_le.2 this
 unfold uns
 rw[Int.emod_eq_of_lt h1 (by omega)]
theorem nm {v z:Int}{n:Nat}(hn:bX (n:Int)=true)(hv:I64 v)(h:(uns v:Int)%2^(8*n)=z%2^(8*n)):bL v n=jE n z:=by
 refine iw (dR hv hn) (iq ..) ?_
 rw[cf hv hn,uA _ (di hn).2,←h]
 unfold bV
 have:((uns v:Int)%2^(8*n))=((uns v%2^(8*n):Nat):Int):=by simp
 rw[this];omega
theorem wV (a b:Int):((uns (bf .i64 a b):Nat):Int)=a*b%18446744073709551616:=by
 unfold bf
 rw[bM,bc];rfl
theorem yO {n:Nat}(hn:n≤8):((2:Int)^(8*n))∣18446744073709551616:=⟨2^(64-8*n),by rw[←Int.pow_add,show 8*n+(64-8*n)=64 by omega];rfl⟩
theorem fac_mod (sg:Bool){n:Nat}(hn:bX (n:Int)=true)(a:Int):lA sg n a%2^(8*n)=(uns a:Int)%2^(8*n):=by
 have h8:=(di hn).2
 unfold lA
 cases sg with
 |false=>
  rw[if_neg (by decide)]
  unfold bV
  rw[Int.natCast_emod,i9,Int.emod_emod]
 |true=>
  rw[if_pos rfl]
  unfold sx
  rw[show 8*n-1+1=8*n by have:=(di hn).1;omega,bc,Int.emod_emod_of_dvd a (by have:=yO h8;exact this)]
  split
  ·rw[Int.sub_emod_right,Int.emod_emod]
  ·rw[Int.emod_emod]
theorem Dr (sg:Bool){n:Nat}(hn:bX (n:Int)=true)(a:Int): -(2:Int)^(8*n-1)≤lA sg n a∧lA sg n a<2^(8*n)∧(sg=true→lA sg n a<2^(8*n-1))∧(sg=false→0≤lA sg n a):=by
 have h1:=(di hn).1
 have hp:(0:Int)<2^(8*n-1):=Int.pow_pos (by decide)
 have hd:(2:Int)^(8*n)=2^(8*n-1)*2:=by rw[←Int.pow_succ,show(8*n-1).succ=8*n by omega]
 unfold lA
 cases sg with
 |false=>
  rw[if_neg (by decide)]
  have:=fQ a n
  have h2:(bV a n:Int)<2^(8*n):=by rw[←i9];exact Int.ofNat_lt.2 this
  exact⟨by omega,h2,fun h=>(by cases h),fun _=>by omega⟩
 |true=>
  rw[if_pos rfl]
  have:=sx_bdA (8*n-1) (by have:=(di hn).2;omega) a
  exact⟨this.1,by omega,fun _=>this.2,fun h=>(by cases h)⟩
theorem sm {a b:Int}(ha:I64 a)(hb:I64 b):dc ((a,b,()),())=some (jE 8 (a*b/18446744073709551616),()):=by
 unfold dc
 rw[qt,aa]
 dsimp only
 have ua:=bc a
 have ub:=bc b
 unfold I64 at ha hb
 have hua:(uns a:Int)=a+(if a<0 then 18446744073709551616 else 0):=by split<;>omega
 have hub:(uns b:Int)=b+(if b<0 then 18446744073709551616 else 0):=by split<;>omega
 have hhi:((uns a*uns b/18446744073709551616:Nat):Int)=(uns a:Int)*(uns b:Int)/18446744073709551616:=by simp
 have hdiv:(uns a:Int)*(uns b:Int)/18446744073709551616=a*b/18446744073709551616+(if b<0 then a else 0)+(if a<0 then b else 0)+(if a<0 then if b<0 then 18446744073709551616 else 0 else 0):=by
  rw[hua,hub]
  by_cases h1:a<0<;>by_cases h2:b<0
  ·simp only[if_pos h1,if_pos h2]
   have e:(a+18446744073709551616)*(b+18446744073709551616)=a*b+18446744073709551616*(a+b+18446744073709551616):=by grind
   rw[e,Int.add_mul_ediv_left _ _ (by decide)];omega
  ·simp only[if_pos h1,if_neg h2]
   have e:(a+18446744073709551616)*(b+0)=a*b+18446744073709551616*b:=by grind
   rw[e,Int.add_mul_ediv_left _ _ (by decide)];omega
  ·simp only[if_neg h1,if_pos h2]
   have e:(a+0)*(b+18446744073709551616)=a*b+18446744073709551616*a:=by grind
   rw[e,Int.add_mul_ediv_left _ _ (by decide)];omega
  ·simp only[if_neg h1,if_neg h2]
   rw[Int.add_zero,Int.add_zero];omega
 have hw:∀x y:Int,x%18446744073709551616=y%18446744073709551616→IntKind.wrap .i64 x=IntKind.wrap .i64 y:=fun x y h=>by
  simp only[IntKind.wrap,IntKind.bits,show(2:Int)^64=18446744073709551616 from rfl,h]
 have hwm:∀x:Int,IntKind.wrap .i64 x%18446744073709551616=x%18446744073709551616:=fun x=>by
  have:=bM x
  have h1:=bc (IntKind.wrap .i64 x)
  have h2:=bc x
  rw[this]at h1
  rw[show(2:Int)^64=18446744073709551616 from rfl]at h1 h2
  omega
 obtain⟨H,hH⟩:∃H:Int,H=lB (uns a*uns b/18446744073709551616) 8:=⟨_,rfl⟩
 have hHm:H%18446744073709551616=((uns a:Int)*(uns b:Int)/18446744073709551616)%18446744073709551616:=by
  rw[hH,←hhi]
  unfold lB
  rw[hwm]
  show((uns a*uns b/18446744073709551616%18446744073709551616:Nat):Int)%18446744073709551616=_
  omega
 rw[←hH]
 have hfin:∀z:Int,z%18446744073709551616=(a*b/18446744073709551616)%18446744073709551616→I64 z→z=jE 8 (a*b/18446744073709551616):=fun z hz hzI=>by
  unfold jE
  rw[←dm hzI]
  refine hw _ _ ?_
  rw[hz]
  show _=(a*b/18446744073709551616)%18446744073709551616%18446744073709551616
  omega
 rw[hdiv]at hHm
 have hHI:I64 H:=by rw[hH];exact jk _ _
 by_cases h1:a<0
 ·rw[ah (gY h1),aa,ar]
  dsimp only
  by_cases h2:b<0
  ·rw[ah (gY h2)]
   rw[if_pos h2,if_pos h1,if_pos h1,if_pos h2]at hHm
   rw[hfin (aM .i64 (aM .i64 H b) a) (by unfold aM;rw[hwm,Int.sub_emod,hwm];omega) (aD _)]
  ·rw[aw (gA h2)]
   rw[if_neg h2,if_pos h1,if_pos h1,if_neg h2]at hHm
   rw[hfin (aM .i64 H b) (by unfold aM;rw[hwm];omega) (aD _)]
 ·rw[aw (gA h1),aa,ar]
  dsimp only
  by_cases h2:b<0
  ·rw[ah (gY h2)]
   rw[if_pos h2,if_neg h1,if_neg h1]at hHm
   rw[hfin (aM .i64 H a) (by unfold aM;rw[hwm];omega) (aD _)]
  ·rw[aw (gA h2)]
   rw[if_neg h2,if_neg h1,if_neg h1]at hHm
   rw[hfin H (by omega) hHI]
end Go.Den.G
namespace Go.Den.G
open Go.Den
set_option maxRecDepth 100000
theorem neI (a b:Int):aX (eqI a b)=(a != b):=by
 unfold eqI
 by_cases h:a=b
 ·rw[decide_eq_true h,h];simp[aX]
 ·rw[decide_eq_false h,dp];exact(bne_iff_ne.2 h).symm
theorem sx63 {v:Int}(hv:I64 v):sx 63 v=v:=by
 unfold I64 at hv
 unfold sx
 rw[show(2:Int)^(63+1)=18446744073709551616 from rfl,show(2:Int)^63=9223372036854775808 from rfl]
 split<;>omega
def qC (sg:Bool)(n:Nat)(a:Int):Int:=if sg=true then sx (8*n-1) a else bL a n
theorem u3 {sg:Bool}{n:Nat}(hn:bX (n:Int)=true)(h8:n≠8){a:Int}(ha:I64 a):qC sg n a=lA sg n a:=by
 unfold qC lA
 cases sg with
 |true=>rfl
 |false=>
  rw[if_neg (by decide),if_neg (by decide)]
  have h1:=cf ha hn
  have h2:=dR ha hn
  have h3:=bc (bL a n)
  have h4:=fQ a n
  have h5:(2:Nat)^(8*n)≤2^32:=Nat.pow_le_pow_right (by decide) (by rcases uG hn with h|h|h|h<;>omega)
  rw[h1]at h3
  have h6:0≤bL a n:=by
   unfold bL
   rw[if_neg h8]
   exact Int.emod_nonneg _ (Int.ne_of_gt (Int.pow_pos (by decide)))
  unfold I64 at h2
  omega
theorem s9 {sg:Bool}{a:Int}(ha:I64 a):qC sg 8 a=a:=by
 unfold qC
 cases sg with
 |true=>exact sx63 ha
 |false=>show bL a 8=a;exact if_pos rfl
theorem wh {sg:Bool}{n:Nat}(hn:bX (n:Int)=true){a:Int}(ha:I64 a):qC sg n a%2^(8*n)=lA sg n a%2^(8*n):=by
 by_cases h8:n=8
 ·subst h8
  rw[s9 ha,fac_mod sg hn,bc]
  show _=a%2^64%2^64
  rw[Int.emod_emod]
 ·rw[u3 hn h8 ha]
theorem Co (x y z w m:Int)(h1:x%m=z%m)(h2:y%m=w%m):x*y%m=z*w%m:=by
 rw[Int.mul_emod,h1,h2,←Int.mul_emod]
theorem lo_eq {sg:Bool}{n:Nat}(hn:bX (n:Int)=true){a b:Int}(ha:I64 a)(hb:I64 b):bL (bf .i64 (qC sg n a) (qC sg n b)) n=tR sg n a b:=by
 refine nm hn (aD _) ?_
 rw[wV,Int.emod_emod_of_dvd _ (yO (di hn).2)]
 exact Co _ _ _ _ _ (wh hn ha) (wh hn hb)
theorem hi_lt {sg:Bool}{n:Nat}(hn:bX (n:Int)=true)(h8:n≠8){a b:Int}(ha:I64 a)(hb:I64 b):
  bL (ak .i64 (ci .u64 (ak .u64 (bf .i64 (qC sg n a) (qC sg n b))) (8*(n:Int)))) n=lX sg n a b:=by
 have hn4:n=1∨n=2∨n=4:=by rcases uG hn with h|h|h|h<;>omega
 refine nm hn (aD _) ?_
 have e8:8*(n:Int)=((8*n:Nat):Int):=by omega
 rw[dP,e8,pT _ _ (by omega)]
 unfold ak
 rw[bM,bc,wV,u3 hn h8 ha,u3 hn h8 hb]
 generalize lA sg n a*lA sg n b=p
 rw[show(2:Int)^64=18446744073709551616 from rfl]
 rcases hn4 with rfl|rfl|rfl
 ·rw[show(2:Int)^(8*1)=256 from rfl];omega
 ·rw[show(2:Int)^(8*2)=65536 from rfl];omega
 ·rw[show(2:Int)^(8*4)=4294967296 from rfl];omega
theorem hi_8 {a b:Int}:lB (uns a*uns b/18446744073709551616) 8=lX false 8 a b:=by
 unfold lX lA
 rw[if_neg (by decide),if_neg (by decide)]
 unfold jE lB
 congr 1
 unfold bV
 rw[show(2:Nat)^(8*8)=18446744073709551616 from rfl,show(2:Int)^(8*8)=18446744073709551616 from rfl,Nat.mod_eq_of_lt (dQ a),Nat.mod_eq_of_lt (dQ b)]
 have e:((uns a:Nat):Int)*((uns b:Nat):Int)=((uns a*uns b:Nat):Int):=by simp
 rw[e]
 generalize uns a*uns b=p
 omega
theorem hi_8s {a b:Int}(ha:I64 a)(hb:I64 b):jE 8 (a*b/18446744073709551616)=lX true 8 a b:=by
 unfold lX lA
 rw[if_pos rfl,if_pos rfl,sx63 ha,sx63 hb]
 rfl
theorem pv {op a b f:Int}{n:Nat}(hn:bX (n:Int)=true)(ha:I64 a)(hb:I64 b)(hI:I64 f)(hf:bK f=true):
  cM ((op,(n:Int),a,b,f,()),())=some (((pp op n a b f).1,(pp op n a b f).2.1,(pp op n a b f).2.2,()),()):=by
 obtain⟨h1,h8⟩:=di hn
 unfold cM
 dsimp only
 have e8:(8*(n:Int)-1).toNat=8*n-1:=by omega
 have hsx:∀v,bo ((v,(n:Int),()),())=some (sx (8*n-1) v,()):=fun v=>by rw[ma _ _ (by omega) (by omega),e8]
 rw[hsx,hsx,aa,aa]
 obtain⟨sg,hsg⟩:∃sg:Bool,sg=decide (op≠13):=⟨_,rfl⟩
 refine(Ret.bnd (Q:=fun y=>y=Sum.inl (((n:Int),f,!sg,qC sg n a,qC sg n b,()),())) ?_ ?_).eq
 ·by_cases h:op=13
  ·have:sg=false:=by rw[hsg];simp[h]
   subst this
   rw[bn h,aR,bB _ n hn,bB _ n hn,aa,aa]
   exact Ret.some rfl
  ·have:sg=true:=by rw[hsg];simp[h]
   subst this
   rw[aG h,ap]
   exact Ret.some rfl
 rintro _ rfl
 rw[ar]
 dsimp only
 rw[bB _ n hn,lo_eq hn ha hb,aa]
 refine Ret.bnd (Q:=fun y=>y=Sum.inl (((n:Int),f,!sg,tR sg n a b,lX sg n a b,()),())) ?_ ?_
 ·by_cases h:n=8
  ·subst h
   rw[aw (gA (by omega))]
   cases sg with
   |false=>
    rw[show(!false)=true from rfl,aR,s9 ha,s9 hb,qt,aa,aa,ar]
    dsimp only
    rw[hi_8]
    exact Ret.some rfl
   |true=>
    rw[show(!true)=false from rfl,ap,s9 ha,s9 hb,sm ha hb,aa,aa,ar]
    dsimp only
    rw[hi_8s ha hb]
    exact Ret.some rfl
  ·rw[ah (gY (by omega)),eI (a:=8) (by omega) (by omega),ah (fv (by omega)),bB _ n hn,hi_lt hn h ha hb,aa]
   exact Ret.some rfl
 rintro _ rfl
 rw[ar]
 dsimp only
 refine Ret.bnd (Q:=fun y=>y=Sum.inl ((f,tR sg n a b,lX sg n a b,zS sg n a b,()),())) ?_ ?_
 ·unfold zS
  cases sg with
  |false=>
   rw[show aX (!false)=false from rfl,ap,neI]
   exact Ret.some rfl
  |true=>
   rw[show aX (!true)=true from rfl,aR,hsx,hsx,aa,aa]
   dsimp only
   rw[neI]
   exact Ret.some rfl
 rintro _ rfl
 rw[ar]
 dsimp only
 rw[gf,aa,y3 hI hf]
 unfold pp
 rw[←hsg]
 exact Ret.some rfl
theorem Cn:∀u:Nat,u<2246→(u&&& 2245 != u||(bK (ior .i64 (dl .i64 (u:Int) 196) 0)&&bK (ior .i64 (dl .i64 (u:Int) 196) 2049)))=true:=by decide +kernel
theorem rW {op a b f:Int}{n:Nat}(hI:I64 f)(hf:bK f=true):I64 (pp op n a b f).1∧I64 (pp op n a b f).2.1∧bK (pp op n a b f).2.2=true∧I64 (pp op n a b f).2.2:=by
 refine⟨iq ..,iq ..,?_,jv ..⟩
 obtain⟨u,hu,rfl,hm⟩:=y4 hI hf
 have:=Cn u hu
 rw[hm]at this
 simp only[bne_self_eq_false,Bool.false_or,Bool.and_eq_true]at this
 unfold pp
 dsimp only
 split
 ·exact this.2
 ·exact this.1
def j7 (f b:Int):Bool:= !eqI (dl .i64 f b) 0
def gP (c f:Int):Bool:=(([j7 f 2048,j7 f 1,j7 f 64,j7 f 1||j7 f 64,j7 f 128,j7 f 4,j7 f 128 != j7 f 2048,j7 f 64||(j7 f 128 != j7 f 2048)]:List Bool).getD (c/2).toNat false)==decide (c%2=0)
theorem rJ {c f:Int}(h0:0≤c)(h1:c≤15):S_impl_holds ((c,f,()),())=some (gP c f,()):=by
 have hs:∀b,bt ((b,()),((f,()),()))=some (j7 f b,((f,()),())):=fun b=>rfl
 unfold S_impl_holds
 dsimp only
 simp only[hs]
 have o1:br (j7 f 1) (some true) (bnd (some (j7 f 64,((f,()),()))) fun x8=>some x8.1)=some (j7 f 1||j7 f 64):=by cases j7 f 1<;>rfl
 have o2:br (j7 f 64) (some true) (some (aX (eqB (j7 f 128) (j7 f 2048))))=some (j7 f 64||(j7 f 128 != j7 f 2048)):=by rw[neB];cases j7 f 64<;>rfl
 rw[aa,aa,aa,aa,aa,aa]
 dsimp only
 rw[o1,aa,aa,aa,aa]
 dsimp only
 rw[o2,aa,mK h0 (by decide) (by omega),ah (cu (by omega) (by omega)),iG h0,neB]
 rfl
end Go.Den.G
namespace Go.Den.G
open Go.Den
set_option maxRecDepth 100000
def lenB (u:Nat):Bool:=match bD (((u:Int),()),())with
 |some x=>decide (1≤x.1∧x.1≤8∧2^(x.1.toNat-1)≤u∧u<2^x.1.toNat)
 |none=>false
theorem Ca:∀u:Nat,u<256→1≤u→lenB u=true:=by decide +kernel
theorem len8_ex {u:Nat}(h:u<256)(h1:1≤u):∃l:Nat,bD (((u:Int),()),())=some ((l:Int),())∧1≤l∧l≤8∧2^(l-1)≤u∧u<2^l:=by
 have:=Ca u h h1
 unfold lenB at this
 cases hx:bD (((u:Int),()),())with
 |none=>rw[hx]at this;cases this
 |some x=>
  rw[hx]at this
  have:=of_decide_eq_true this
  obtain⟨n,hn⟩:=Int.eq_ofNat_of_zero_le (show 0≤x.1 by omega)
  rw[hn]at this
  refine⟨n,?_,by omega,by omega,this.2.2.1,this.2.2.2⟩
  rw[←hn]
theorem Ab {a b u:Nat}(h:2^(a-1)≤u/2^b)(h2:u/2^b<2^a)(ha:1≤a):2^(a+b-1)≤u∧u<2^(a+b):=by
 have hp:0<2^b:=Nat.two_pow_pos b
 rw[Nat.le_div_iff_mul_le hp,←Nat.pow_add]at h
 rw[Nat.div_lt_iff_lt_mul hp,←Nat.pow_add]at h2
 rw[show a+b-1=a-1+b by omega]
 exact⟨h,h2⟩
theorem shrN (x k:Nat)(hk:k≤64):ci .u64 (x:Int) (k:Int)=((x/2^k:Nat):Int):=by
 rw[pT _ _ hk,Int.natCast_ediv,i9]
theorem len_fin (T:List UInt8)(i:Int){k l:Nat}(hk:k≤56)(h:some (ax .i64 0 (ak .i64 (fW T i)),())=some ((l:Int),())):some (ax .i64 (k:Int) (ak .i64 (fW T i)),())=some (((l+k:Nat):Int),()):=by
 have hb:0≤fW T i∧fW T i<256:=by
  unfold fW
  have:=(T.getD i.toNat 0).toNat_lt
  omega
 generalize fW T i=w at hb h⊢
 rw[AJ (by omega) (by omega),bS (by omega) (by omega)]at h⊢
 injection h with h
 injection h with h _
 rw[show(k:Int)+w=((l+k:Nat):Int)by omega]
theorem A0 {x:Nat}(h1:1≤x)(hx:x<18446744073709551616):∃l:Nat,bD (((x:Int),()),())=some ((l:Int),())∧1≤l∧l≤64∧2^(l-1)≤x∧x<2^l:=by
 have s32:∀z:Nat,ci .u64 (z:Int) 32=((z/4294967296:Nat):Int):=fun z=>shrN z 32 (by decide)
 have s16:∀z:Nat,ci .u64 (z:Int) 16=((z/65536:Nat):Int):=fun z=>shrN z 16 (by decide)
 have s8:∀z:Nat,ci .u64 (z:Int) 8=((z/256:Nat):Int):=fun z=>shrN z 8 (by decide)
 unfold bD
 dsimp only
 obtain⟨x1,k1,e1,a1,a2,a3⟩:∃x1 k1:Nat,(br (leI 4294967296 (x:Int)) (some (Sum.inl ((ci .u64 (x:Int) 32,(32:Int),()),()):Sum ((Int×Int×Unit)×Unit) (Int×Unit))) (some (Sum.inl (((x:Int),(0:Int),()),()))))=some (Sum.inl (((x1:Int),(k1:Int),()),()))∧1≤x1∧x1<4294967296∧(k1≤32∧x1=x/2^k1):=by
  by_cases h:4294967296≤x
  ·exact⟨x/4294967296,32,by rw[ah (fv (by omega)),s32];rfl,by omega,by omega,by omega,rfl⟩
  ·exact⟨x,0,by rw[aw (jy (by omega))];rfl,h1,by omega,by omega,by simp⟩
 rw[e1,aa,ar]
 dsimp only
 obtain⟨x2,k2,e2,b1,b2,b3⟩:∃x2 k2:Nat,(br (leI 65536 (x1:Int)) (some (Sum.inl ((ci .u64 (x1:Int) 16,ax .i64 (k1:Int) 16,()),()):Sum ((Int×Int×Unit)×Unit) (Int×Unit))) (some (Sum.inl (((x1:Int),(k1:Int),()),()))))=some (Sum.inl (((x2:Int),(k2:Int),()),()))∧1≤x2∧x2<65536∧(k2≤48∧x2=x/2^k2):=by
  by_cases h:65536≤x1
  ·refine⟨x1/65536,k1+16,by rw[ah (fv (by omega)),s16,bS (by omega) (by omega)];rfl,by omega,by omega,by omega,?_⟩
   rw[a3.2,Nat.pow_add,Nat.div_div_eq_div_mul]
  ·exact⟨x1,k1,by rw[aw (jy (by omega))],a1,by omega,by omega,a3.2⟩
 rw[e2,aa,ar]
 dsimp only
 obtain⟨x3,k3,e3,d1,d2,d3⟩:∃x3 k3:Nat,(br (leI 256 (x2:Int)) (some (Sum.inl ((ci .u64 (x2:Int) 8,ax .i64 (k2:Int) 8,()),()):Sum ((Int×Int×Unit)×Unit) (Int×Unit))) (some (Sum.inl (((x2:Int),(k2:Int),()),()))))=some (Sum.inl (((x3:Int),(k3:Int),()),()))∧1≤x3∧x3<256∧(k3≤56∧x3=x/2^k3):=by
  by_cases h:256≤x2
  ·refine⟨x2/256,k2+8,by rw[ah (fv (by omega)),s8,bS (by omega) (by omega)];rfl,by omega,by omega,by omega,?_⟩
   rw[b3.2,Nat.pow_add,Nat.div_div_eq_div_mul]
  ·exact⟨x2,k2,by rw[aw (jy (by omega))],b1,by omega,by omega,b3.2⟩
 rw[e3,aa,ar]
 dsimp only
 obtain⟨l,hl,l1,l8,g1,g2⟩:=len8_ex d2 d1
 unfold bD at hl
 dsimp only at hl
 rw[aw (jy (by omega)),aa,ar]at hl
 dsimp only at hl
 rw[aw (jy (by omega)),aa,ar]at hl
 dsimp only at hl
 rw[aw (jy (by omega)),aa,ar]at hl
 dsimp only at hl
 have hr:inR (ak .u8 (x3:Int)) 256=true:=by rw[AI (by omega) (by omega)];exact cu (by omega) (by omega)
 rw[hr,aR]at hl⊢
 rw[d3.2]at g1 g2
 have:=Ab g1 g2 l1
 exact⟨l+k3,len_fin _ _ d3.1 hl,by omega,by omega,this.1,this.2⟩
end Go.Den.G
namespace Go.Den.G
open Go.Den
set_option maxRecDepth 100000
structure Dig (y1 y0 u d:Nat):Prop where
 b0:y0<4294967296
 b1:y1<4294967296
 n1:4294967296≤2*y1
 lt:u<y1*4294967296+y0
 bd:d<4294967296
def qA (y1 y0 u d:Nat):Nat:=(u*4294967296+d)/(y1*4294967296+y0)
section
variable {y1 y0 u d:Nat}
theorem Dig.y_pos (h:Dig y1 y0 u d):0<y1*4294967296+y0:=by have:=h.n1;omega
theorem Dig.q_lt (h:Dig y1 y0 u d):qA y1 y0 u d<4294967296:=by
 have h1:=h.lt
 have h2:=h.bd
 unfold qA
 obtain⟨y,hy⟩:∃y,y=y1*4294967296+y0:=⟨_,rfl⟩
 rw[←hy]at h1⊢
 exact Nat.div_lt_of_lt_mul (by omega)
theorem Dig.test (h:Dig y1 y0 u d){q r:Nat}(e:q*y1+r=u):q≤qA y1 y0 u d↔¬4294967296*r+d<q*y0:=by
 unfold qA
 rw[Nat.le_div_iff_mul_le h.y_pos,←e]
 have e1:q*(y1*4294967296+y0)=q*y1*4294967296+q*y0:=by rw[Nat.mul_add,Nat.mul_assoc]
 rw[e1]
 generalize q*y1=a
 generalize q*y0=b
 omega
theorem Dig.init (h:Dig y1 y0 u d):qA y1 y0 u d≤u/y1∧u/y1≤4294967297∧u%y1<4294967296:=by
 have hy1:0<y1:=by have:=h.n1;omega
 refine⟨?_,?_,?_⟩
 ·rw[Nat.le_div_iff_mul_le hy1]
  have h1:qA y1 y0 u d*(y1*4294967296+y0)≤u*4294967296+d:=Nat.div_mul_le_self _ _
  have e1:qA y1 y0 u d*(y1*4294967296+y0)=qA y1 y0 u d*y1*4294967296+qA y1 y0 u d*y0:=by rw[Nat.mul_add,Nat.mul_assoc]
  rw[e1]at h1
  have:=h.bd
  generalize qA y1 y0 u d*y1=a at*
  generalize qA y1 y0 u d*y0=b at*
  omega
 ·have:u/y1<4294967298:=by
   have:=h.lt
   have:=h.b0
   have:=h.n1
   refine Nat.div_lt_of_lt_mul ?_
   have e:y1*4294967298=y1*4294967296+y1*2:=by rw[←Nat.mul_add]
   rw[e];omega
  omega
 ·have:=Nat.mod_lt u hy1
  have:=h.b1
  omega
theorem Dig.stop (h:Dig y1 y0 u d){q r:Nat}(e:q*y1+r=u)(hq:qA y1 y0 u d≤q)(h1:q≤4294967296)(hr:4294967296≤r):q=qA y1 y0 u d:=by
 refine Nat.le_antisymm ((h.test e).2 ?_) hq
 have:q*y0≤4294967296*4294967295:=Nat.mul_le_mul h1 (by have:=h.b0;omega)
 omega
theorem Dig.rest (h:Dig y1 y0 u d):(u*4294967296+d)=qA y1 y0 u d*(y1*4294967296+y0)+(u*4294967296+d)%(y1*4294967296+y0)∧(u*4294967296+d)%(y1*4294967296+y0)<y1*4294967296+y0:=by
 refine⟨?_,Nat.mod_lt _ h.y_pos⟩
 unfold qA
 exact(Nat.div_add_mod' _ _).symm
end
theorem addN {a b:Nat}(h:a+b<18446744073709551616):ax .u64 (a:Int) (b:Int)=((a+b:Nat):Int):=by rw[yq];omega
theorem AT {a b:Nat}(h:a*b<18446744073709551616):bf .u64 (a:Int) (b:Int)=((a*b:Nat):Int):=by
 rw[mulU]
 have e:(a:Int)*(b:Int)=((a*b:Nat):Int):=by simp
 rw[e];generalize a*b=p at *;omega
theorem subN {a b:Nat}(h:b≤a)(ha:a<18446744073709551616):aM .u64 (a:Int) (b:Int)=((a-b:Nat):Int):=by rw[subU];omega
theorem quoN {a b:Nat}(ha:a<18446744073709551616):me .u64 (a:Int) (b:Int)=((a/b:Nat):Int):=by
 unfold me
 rw[Int.tdiv_eq_ediv_of_nonneg (by omega),←Int.natCast_ediv,ez]
 have:=Nat.div_le_self a b
 generalize a/b=q at*
 omega
theorem remN {a b:Nat}:io (a:Int) (b:Int)=((a%b:Nat):Int):=by
 unfold io
 rw[Int.tmod_eq_emod_of_nonneg (by omega),Int.natCast_emod]
theorem restN {a c p r:Nat}(h:a*4294967296+c=p+r)(hr:r<18446744073709551616):aM .u64 (ax .u64 (bf .u64 (a:Int) 4294967296) (c:Int)) (IntKind.wrap .u64 (p:Int))=(r:Int):=by
 rw[subU,yq,mulU,ez]
 have e:(a:Int)*4294967296+c=p+r:=by omega
 omega
theorem mulW (a b:Nat):bf .u64 (a:Int) (b:Int)=IntKind.wrap .u64 ((a*b:Nat):Int):=by
 unfold bf
 simp
end Go.Den.G
namespace Go.Den.G
open Go.Den
set_option maxRecDepth 100000
theorem xr {B u d1 d0 a b u2 r:Nat}(f1:u*B+d1=a+u2)(f2:u2*B+d0=b+r):u*(B*B)+(d1*B+d0)=r+(a*B+b):=by
 have e2:(u*B+d1)*B=(a+u2)*B:=by rw[f1]
 rw[Nat.add_mul,Nat.add_mul,Nat.mul_assoc]at e2
 omega
theorem yK {u d1 d0 a b u2 r:Nat}(f1:u*4294967296+d1=a+u2)(f2:u2*4294967296+d0=b+r):u*18446744073709551616+(d1*4294967296+d0)=r+(a*4294967296+b):=xr (B:=4294967296) f1 f2
theorem yi {y1 y0 u d1 d0:Nat}(D:Dig y1 y0 u d1)(D2:Dig y1 y0 ((u*4294967296+d1)%(y1*4294967296+y0)) d0):
  (u*18446744073709551616+(d1*4294967296+d0))/(y1*4294967296+y0)=qA y1 y0 u d1*4294967296+qA y1 y0 ((u*4294967296+d1)%(y1*4294967296+y0)) d0∧
  (u*18446744073709551616+(d1*4294967296+d0))%(y1*4294967296+y0)=((u*4294967296+d1)%(y1*4294967296+y0)*4294967296+d0)%(y1*4294967296+y0):=by
 obtain⟨e1,l1⟩:=D.rest
 obtain⟨e2,l2⟩:=D2.rest
 have hp:=D.y_pos
 obtain⟨u2,hu2⟩:∃u2,u2=(u*4294967296+d1)%(y1*4294967296+y0):=⟨_,rfl⟩
 rw[←hu2]at e1 e2 l1 l2⊢
 obtain⟨r,hr⟩:∃r,r=(u2*4294967296+d0)%(y1*4294967296+y0):=⟨_,rfl⟩
 rw[←hr]at e2 l2⊢
 obtain⟨Q1,hQ1⟩:∃Q,Q=qA y1 y0 u d1:=⟨_,rfl⟩
 obtain⟨Q0,hQ0⟩:∃Q,Q=qA y1 y0 u2 d0:=⟨_,rfl⟩
 rw[←hQ1]at e1⊢
 rw[←hQ0]at e2⊢
 obtain⟨y,hy⟩:∃y,y=y1*4294967296+y0:=⟨_,rfl⟩
 rw[←hy]at e1 e2 l2 hp⊢
 have e:u*18446744073709551616+(d1*4294967296+d0)=r+y*(Q1*4294967296+Q0):=by
  have a1:y*(Q1*4294967296+Q0)=Q1*y*4294967296+Q0*y:=by rw[Nat.mul_add,←Nat.mul_assoc,Nat.mul_comm y Q1,Nat.mul_comm y Q0]
  obtain⟨a,ha⟩:∃a,a=Q1*y:=⟨_,rfl⟩
  obtain⟨b,hb⟩:∃b,b=Q0*y:=⟨_,rfl⟩
  have f1:u*4294967296+d1=a+u2:=by rw[ha];exact e1
  have f2:u2*4294967296+d0=b+r:=by rw[hb];exact e2
  have f3:y*(Q1*4294967296+Q0)=a*4294967296+b:=by rw[ha,hb];exact a1
  rw[f3]
  exact yK f1 f2
 rw[e]
 constructor
 ·rw[Nat.add_mul_div_left _ _ hp,Nat.div_eq_of_lt l2];omega
 ·rw[Nat.add_mul_mod_self_left,Nat.mod_eq_of_lt l2]
structure DigF (y y1 y0 u d Q r:Nat):Prop where
 b0:y0<4294967296
 b1:y1<4294967296
 p1:0<y1
 ql:Q<4294967296
 t:∀q r,q*y1+r=u→(q≤Q↔¬4294967296*r+d<q*y0)
 st:∀q r,q*y1+r=u→Q≤q→q≤4294967296→4294967296≤r→q=Q
 i:Q≤u/y1∧u/y1≤4294967297∧u%y1<4294967296
 rr:u*4294967296+d=Q*y+r
 rl:r<18446744073709551616
 ul:u<18446744073709551616
 bd:d<4294967296
theorem Dig.f {y1 y0 u d y:Nat}(h:Dig y1 y0 u d)(hy:y=y1*4294967296+y0):DigF y y1 y0 u d (qA y1 y0 u d) ((u*4294967296+d)%(y1*4294967296+y0)):=by
 have hW:y1*4294967296+y0<18446744073709551616:=by have:=h.b1;have:=h.b0;omega
 refine⟨h.b0,h.b1,by have:=h.n1;omega,h.q_lt,fun q r e=>h.test e,fun q r e a b c=>h.stop e a b c,h.init,?_,Nat.lt_trans h.rest.2 hW,Nat.lt_trans h.lt hW,h.bd⟩
 rw[hy];exact h.rest.1
theorem Bj {G:Option ((Int×Int×Unit)×Unit)}{y y1 y0 u d1 d0 s Q1 Q0 u2 r2:Nat}(D:DigF y y1 y0 u d1 Q1 u2)(D2:DigF y y1 y0 u2 d0 Q0 r2)(hs:s≤63){A B:Nat}
  (hA:Q1*4294967296+Q0=A) (hB:r2/2^s=B)
  (hG:G=iter F (fun(x7:((Int×Int×Int×Int×Int×Int×Int×Int×Int×Unit)×Unit)→(Option ((Int×Int×Unit)×Unit)))=>(fun(x8:((Int×Int×Int×Int×Int×Int×Int×Int×Int×Unit)×Unit))=>(bnd (br (leI 4294967296 (p7 x8.1)) (some true) (some (ltI (ax .u64 (bf .u64 4294967296 (p8 x8.1)) (p5 x8.1)) (bf .u64 (p7 x8.1) x8.1.2.2.2.1)))) (fun(x9:Bool)=>(br x9 (br (leI 4294967296 (ax .u64 (p8 x8.1) x8.1.2.2.1)) (br (aX (eqI x8.1.2.2.1 0)) (iter F (fun(x10:((Int×Int×Int×Int×Int×Int×Int×Int×Int×Unit)×Unit)→(Option ((Int×Int×Unit)×Unit)))=>(fun(x11:((Int×Int×Int×Int×Int×Int×Int×Int×Int×Unit)×Unit))=>(bnd (br (leI 4294967296 (p8 x11.1)) (some true) (some (ltI (ax .u64 (bf .u64 4294967296 (p6 x11.1)) x11.1.2.2.2.2.1) (bf .u64 (p8 x11.1) x11.1.2.2.2.1)))) (fun(x12:Bool)=>(br x12 (br (leI 4294967296 (ax .u64 (p6 x11.1) x11.1.2.2.1)) (br (leI 0 x11.1.2.1) (some (((ax .u64 (bf .u64 (p5 x11.1) 4294967296) (aM .u64 (p8 x11.1) 1)),((ci .u64 (aM .u64 (ax .u64 (bf .u64 (p7 x11.1) 4294967296) x11.1.2.2.2.2.1) (bf .u64 (aM .u64 (p8 x11.1) 1) x11.1.1)) x11.1.2.1),())),())) none) (x10 ((cp6 x11.1 ((ax .u64 (p6 x11.1) x11.1.2.2.1),((p7 x11.1),((aM .u64 (p8 x11.1) 1),())))),()))) (br (leI 0 x11.1.2.1) (some (((ax .u64 (bf .u64 (p5 x11.1) 4294967296) (p8 x11.1)),((ci .u64 (aM .u64 (ax .u64 (bf .u64 (p7 x11.1) 4294967296) x11.1.2.2.2.2.1) (bf .u64 (p8 x11.1) x11.1.1)) x11.1.2.1),())),())) none)))))) ((x8.1.1,(x8.1.2.1,(x8.1.2.2.1,(x8.1.2.2.2.1,((p6 x8.1),((aM .u64 (p7 x8.1) 1),((aM .u64 (aM .u64 (ax .u64 (bf .u64 x8.1.2.2.2.2.1 4294967296) (p5 x8.1)) (bf .u64 (aM .u64 (p7 x8.1) 1) x8.1.1)) (bf .u64 (me .u64 (aM .u64 (ax .u64 (bf .u64 x8.1.2.2.2.2.1 4294967296) (p5 x8.1)) (bf .u64 (aM .u64 (p7 x8.1) 1) x8.1.1)) x8.1.2.2.1) x8.1.2.2.1)),((aM .u64 (ax .u64 (bf .u64 x8.1.2.2.2.2.1 4294967296) (p5 x8.1)) (bf .u64 (aM .u64 (p7 x8.1) 1) x8.1.1)),((me .u64 (aM .u64 (ax .u64 (bf .u64 x8.1.2.2.2.2.1 4294967296) (p5 x8.1)) (bf .u64 (aM .u64 (p7 x8.1) 1) x8.1.1)) x8.1.2.2.1),()))))))))),())) none) (x7 ((cp7 x8.1 ((aM .u64 (p7 x8.1) 1),((ax .u64 (p8 x8.1) x8.1.2.2.1),()))),()))) (br (aX (eqI x8.1.2.2.1 0)) (iter F (fun(x13:((Int×Int×Int×Int×Int×Int×Int×Int×Int×Unit)×Unit)→(Option ((Int×Int×Unit)×Unit)))=>(fun(x14:((Int×Int×Int×Int×Int×Int×Int×Int×Int×Unit)×Unit))=>(bnd (br (leI 4294967296 (p8 x14.1)) (some true) (some (ltI (ax .u64 (bf .u64 4294967296 (p6 x14.1)) x14.1.2.2.2.2.1) (bf .u64 (p8 x14.1) x14.1.2.2.2.1)))) (fun(x15:Bool)=>(br x15 (br (leI 4294967296 (ax .u64 (p6 x14.1) x14.1.2.2.1)) (br (leI 0 x14.1.2.1) (some (((ax .u64 (bf .u64 (p5 x14.1) 4294967296) (aM .u64 (p8 x14.1) 1)),((ci .u64 (aM .u64 (ax .u64 (bf .u64 (p7 x14.1) 4294967296) x14.1.2.2.2.2.1) (bf .u64 (aM .u64 (p8 x14.1) 1) x14.1.1)) x14.1.2.1),())),())) none) (x13 ((cp6 x14.1 ((ax .u64 (p6 x14.1) x14.1.2.2.1),((p7 x14.1),((aM .u64 (p8 x14.1) 1),())))),()))) (br (leI 0 x14.1.2.1) (some (((ax .u64 (bf .u64 (p5 x14.1) 4294967296) (p8 x14.1)),((ci .u64 (aM .u64 (ax .u64 (bf .u64 (p7 x14.1) 4294967296) x14.1.2.2.2.2.1) (bf .u64 (p8 x14.1) x14.1.1)) x14.1.2.1),())),())) none)))))) ((x8.1.1,(x8.1.2.1,(x8.1.2.2.1,(x8.1.2.2.2.1,((p6 x8.1),((p7 x8.1),((aM .u64 (aM .u64 (ax .u64 (bf .u64 x8.1.2.2.2.2.1 4294967296) (p5 x8.1)) (bf .u64 (p7 x8.1) x8.1.1)) (bf .u64 (me .u64 (aM .u64 (ax .u64 (bf .u64 x8.1.2.2.2.2.1 4294967296) (p5 x8.1)) (bf .u64 (p7 x8.1) x8.1.1)) x8.1.2.2.1) x8.1.2.2.1)),((aM .u64 (ax .u64 (bf .u64 x8.1.2.2.2.2.1 4294967296) (p5 x8.1)) (bf .u64 (p7 x8.1) x8.1.1)),((me .u64 (aM .u64 (ax .u64 (bf .u64 x8.1.2.2.2.2.1 4294967296) (p5 x8.1)) (bf .u64 (p7 x8.1) x8.1.1)) x8.1.2.2.1),()))))))))),())) none)))))) ((((y:Nat):Int),(s:Int),(y1:Int),(y0:Int),(u:Int),(d1:Int),(d0:Int),((u/y1:Nat):Int),((u%y1:Nat):Int),()),())):
  G=some ((((A:Nat):Int),((B:Nat):Int),()),()):=by
 subst hG
 have hu2:=D.rl
 have hN1:=D.rr
 have hy1:=D.p1
 have fin:Ret (some ((ax .u64 (bf .u64 (Q1:Int) 4294967296) (Q0:Int),ci .u64 (aM .u64 (ax .u64 (bf .u64 (u2:Int) 4294967296) (d0:Int)) (IntKind.wrap .u64 ((Q0*y:Nat):Int))) (s:Int),()),())) (fun y=>y=((((A:Nat):Int),((B:Nat):Int),()),())):=by
  have q1:=D.ql
  have q0:=D2.ql
  rw[restN D2.rr D2.rl,shrN _ _ (by omega),hB]
  have e1:bf .u64 (Q1:Int) 4294967296=((Q1*4294967296:Nat):Int):=AT (b:=4294967296) (by omega)
  rw[e1,addN (by omega),hA]
  exact Ret.some rfl
 refine(Ret.iter (fun x=>∃q r:Nat,q*y1+r=u∧Q1≤q∧q≤4294967297∧r<4294967296∧x=(((y:Int),(s:Int),(y1:Int),(y0:Int),(u:Int),(d1:Int),(d0:Int),(q:Int),(r:Int),()),())) (fun x=>x.1.2.2.2.2.2.2.2.1.toNat)
  ?_ F _ ⟨u/y1,u%y1,Nat.div_add_mod' _ _,D.i.1,D.i.2.1,D.i.2.2,rfl⟩ (by unfold F;dsimp only;rw[Int.toNat_natCast];have:=D.i.2.1;omega)).eq
 rintro _ rec ⟨q,r,he,hQ,hq,hr,rfl⟩ hrec
 dsimp only[p5,p6,p7,p8,cp7]at hrec⊢
 refine Ret.bnd (Q:=fun z=>(z=true∧Q1<q)∨(z=false∧q=Q1)) ?_ ?_
 ·by_cases hb:4294967296≤q
  ·rw[ah (fv (by omega))]
   exact Ret.some (.inl ⟨rfl,by have:=D.ql;omega⟩)
  ·rw[aw (jy (by omega))]
   have hm:q*y0<18446744073709551616:=Nat.lt_of_le_of_lt (Nat.mul_le_mul (show q≤4294967295 by omega) (show y0≤4294967295 by have:=D.b0;omega)) (show 4294967295*4294967295<18446744073709551616 by omega)
   have hr2:4294967296*r+d1<18446744073709551616:=by have:=D.bd;omega
   rw[show(4294967296:Int)=((4294967296:Nat):Int)from rfl,AT (a:=4294967296) (b:=r) (by omega),addN hr2,AT hm]
   have ht:=D.t _ _ he
   by_cases hx:4294967296*r+d1<q*y0
   ·rw[gY (by omega)]
    exact Ret.some (.inl ⟨rfl,by
     have:¬q≤Q1:=fun g=>ht.1 g hx
     omega⟩)
   ·rw[gA (by omega)]
    exact Ret.some (.inr ⟨rfl,by have:=ht.2 hx;omega⟩)
 intro z hz
 rcases hz with ⟨rfl,hlt⟩|⟨rfl,hqe⟩
 ·rw[aR,addN (a:=r) (b:=y1) (by have:=D.b1;omega)]
  have hq1:aM .u64 (q:Int) 1=((q-1:Nat):Int):=subN (b:=1) (by omega) (by omega)
  have he':(q-1)*y1+(r+y1)=u:=by
   obtain⟨k,rfl⟩:∃k,q=k+1:=⟨q-1,by omega⟩
   rw[Nat.add_sub_cancel,←he,Nat.add_mul];omega
  rw[hq1]
  by_cases hb:4294967296≤r+y1
  ·rw[ah (fv (by omega)),ah (show aX (eqI (y1:Int) 0)=true by rw[aG (by omega)];rfl)]
   have hst:=D.st _ _ he' (by omega) (by omega) hb
   rw[hst,mulW]
   rw[restN hN1 hu2,quoN hu2,AT (Nat.lt_of_le_of_lt (Nat.div_mul_le_self u2 y1) hu2),subN (Nat.div_mul_le_self u2 y1) hu2]
   refine Ret.iter (fun x=>∃q r:Nat,q*y1+r=u2∧Q0≤q∧q≤4294967297∧r<4294967296∧x=(((y:Int),(s:Int),(y1:Int),(y0:Int),(d0:Int),(Q1:Int),(r:Int),(u2:Int),(q:Int),()),())) (fun x=>x.1.2.2.2.2.2.2.2.2.1.toNat)
    ?_ F _ ⟨u2/y1,u2%y1,Nat.div_add_mod' _ _,D2.i.1,D2.i.2.1,D2.i.2.2,by
     have:u2-u2/y1*y1=u2%y1:=by have:=Nat.div_add_mod' u2 y1;omega
     rw[this]⟩ (by unfold F;dsimp only;rw[Int.toNat_natCast];have:=D2.i.2.1;omega)
   rintro _ rec2 ⟨q,r,he,hQ,hq,hr,rfl⟩ hrec2
   dsimp only[p5,p6,p7,p8,cp6]at hrec2⊢
   refine Ret.bnd (Q:=fun z=>(z=true∧Q0<q)∨(z=false∧q=Q0)) ?_ ?_
   ·by_cases hb:4294967296≤q
    ·rw[ah (fv (by omega))]
     exact Ret.some (.inl ⟨rfl,by have:=D2.ql;omega⟩)
    ·rw[aw (jy (by omega))]
     have hm:q*y0<18446744073709551616:=Nat.lt_of_le_of_lt (Nat.mul_le_mul (show q≤4294967295 by omega) (show y0≤4294967295 by have:=D.b0;omega)) (show 4294967295*4294967295<18446744073709551616 by omega)
     have hr2:4294967296*r+d0<18446744073709551616:=by have:=D2.bd;omega
     rw[show(4294967296:Int)=((4294967296:Nat):Int)from rfl,AT (a:=4294967296) (b:=r) (by omega),addN hr2,AT hm]
     have ht:=D2.t _ _ he
     by_cases hx:4294967296*r+d0<q*y0
     ·rw[gY (by omega)]
      exact Ret.some (.inl ⟨rfl,by
       have:¬q≤Q0:=fun g=>ht.1 g hx
       omega⟩)
     ·rw[gA (by omega)]
      exact Ret.some (.inr ⟨rfl,by have:=ht.2 hx;omega⟩)
   rintro z hz
   rcases hz with ⟨rfl,hlt⟩|⟨rfl,rfl⟩
   ·rw[aR,addN (a:=r) (b:=y1) (by have:=D.b1;omega)]
    have hq1:aM .u64 (q:Int) 1=((q-1:Nat):Int):=subN (b:=1) (by omega) (by omega)
    have he':(q-1)*y1+(r+y1)=u2:=by
     obtain⟨k,rfl⟩:∃k,q=k+1:=⟨q-1,by omega⟩
     rw[Nat.add_sub_cancel,←he,Nat.add_mul];omega
    rw[hq1]
    by_cases hb:4294967296≤r+y1
    ·rw[ah (fv (by omega)),ah (fv (by omega))]
     have hs:=D2.st _ _ he' (by omega) (by omega) hb
     rw[hs,mulW]
     exact fin
    ·rw[aw (jy (by omega))]
     exact hrec2 _ ⟨q-1,r+y1,he',by omega,by omega,by omega,rfl⟩ (by dsimp only;omega)
   ·rw[ap,ah (fv (by omega)),mulW]
    exact fin
  ·rw[aw (jy (by omega))]
   exact hrec _ ⟨q-1,r+y1,he',by omega,by omega,by omega,rfl⟩ (by dsimp only;omega)
 ·rw[hqe,ap,ah (show aX (eqI (y1:Int) 0)=true by rw[aG (by omega)];rfl),mulW]
  rw[restN hN1 hu2,quoN hu2,AT (Nat.lt_of_le_of_lt (Nat.div_mul_le_self u2 y1) hu2),subN (Nat.div_mul_le_self u2 y1) hu2]
  refine Ret.iter (fun x=>∃q r:Nat,q*y1+r=u2∧Q0≤q∧q≤4294967297∧r<4294967296∧x=(((y:Int),(s:Int),(y1:Int),(y0:Int),(d0:Int),(Q1:Int),(r:Int),(u2:Int),(q:Int),()),())) (fun x=>x.1.2.2.2.2.2.2.2.2.1.toNat)
   ?_ F _ ⟨u2/y1,u2%y1,Nat.div_add_mod' _ _,D2.i.1,D2.i.2.1,D2.i.2.2,by
    have:u2-u2/y1*y1=u2%y1:=by have:=Nat.div_add_mod' u2 y1;omega
    rw[this]⟩ (by unfold F;dsimp only;rw[Int.toNat_natCast];have:=D2.i.2.1;omega)
  rintro _ rec2 ⟨q,r,he,hQ,hq,hr,rfl⟩ hrec2
  dsimp only[p5,p6,p7,p8,cp6]at hrec2⊢
  refine Ret.bnd (Q:=fun z=>(z=true∧Q0<q)∨(z=false∧q=Q0)) ?_ ?_
  ·by_cases hb:4294967296≤q
   ·rw[ah (fv (by omega))]
    exact Ret.some (.inl ⟨rfl,by have:=D2.ql;omega⟩)
   ·rw[aw (jy (by omega))]
    have hm:q*y0<18446744073709551616:=Nat.lt_of_le_of_lt (Nat.mul_le_mul (show q≤4294967295 by omega) (show y0≤4294967295 by have:=D.b0;omega)) (show 4294967295*4294967295<18446744073709551616 by omega)
    have hr2:4294967296*r+d0<18446744073709551616:=by have:=D2.bd;omega
    rw[show(4294967296:Int)=((4294967296:Nat):Int)from rfl,AT (a:=4294967296) (b:=r) (by omega),addN hr2,AT hm]
    have ht:=D2.t _ _ he
    by_cases hx:4294967296*r+d0<q*y0
    ·rw[gY (by omega)]
     exact Ret.some (.inl ⟨rfl,by
      have:¬q≤Q0:=fun g=>ht.1 g hx
      omega⟩)
    ·rw[gA (by omega)]
     exact Ret.some (.inr ⟨rfl,by have:=ht.2 hx;omega⟩)
  rintro z hz
  rcases hz with ⟨rfl,hlt⟩|⟨rfl,rfl⟩
  ·rw[aR,addN (a:=r) (b:=y1) (by have:=D.b1;omega)]
   have hq1:aM .u64 (q:Int) 1=((q-1:Nat):Int):=subN (b:=1) (by omega) (by omega)
   have he':(q-1)*y1+(r+y1)=u2:=by
    obtain⟨k,rfl⟩:∃k,q=k+1:=⟨q-1,by omega⟩
    rw[Nat.add_sub_cancel,←he,Nat.add_mul];omega
   rw[hq1]
   by_cases hb:4294967296≤r+y1
   ·rw[ah (fv (by omega)),ah (fv (by omega))]
    have hs:=D2.st _ _ he' (by omega) (by omega) hb
    rw[hs,mulW]
    exact fin
   ·rw[aw (jy (by omega))]
    exact hrec2 _ ⟨q-1,r+y1,he',by omega,by omega,by omega,rfl⟩ (by dsimp only;omega)
  ·rw[ap,ah (fv (by omega)),mulW]
   exact fin
theorem Cr {X y0 s:Nat}:X*2^s/(y0*2^s)=X/y0∧X*2^s%(y0*2^s)/2^s=X%y0:=by
 have hp:0<2^s:=Nat.two_pow_pos s
 constructor
 ·rw[Nat.mul_div_mul_right _ _ hp]
 ·rw[Nat.mul_mod_mul_right,Nat.mul_div_cancel _ hp]
theorem iorN {a b k:Nat}(ha:a*2^k<18446744073709551616)(hb:b<2^k)(l1:a*2^k+b<18446744073709551616):ior .u64 ((a*2^k:Nat):Int) (b:Int)=((a*2^k+b:Nat):Int):=by
 have e:a*2^k|||b=a*2^k+b:=by rw[Nat.mul_comm,Nat.two_pow_add_eq_or_of_lt hb]
 unfold ior
 rw[ez]
 have:((BitVec.ofInt IntKind.u64.bits ((a*2^k:Nat):Int)|||BitVec.ofInt IntKind.u64.bits (b:Int)).toNat)=(a*2^k)%18446744073709551616|||b%18446744073709551616:=by
  rw[BitVec.toNat_or]
  show(BitVec.ofInt 64 ((a*2^k:Nat):Int)).toNat|||(BitVec.ofInt 64 (b:Int)).toNat=_
  rw[BitVec.toNat_ofInt,BitVec.toNat_ofInt]
  show(((a*2^k:Nat):Int)%(18446744073709551616:Nat)).toNat|||((b:Int)%(18446744073709551616:Nat)).toNat=_
  rw[←Int.natCast_emod,←Int.natCast_emod,Int.toNat_natCast,Int.toNat_natCast]
 have l2:b<18446744073709551616:=by omega
 rw[this,Nat.mod_eq_of_lt ha,Nat.mod_eq_of_lt l2,e]
 omega
theorem DL {a s:Nat}(hs:s≤64):cH .u64 (a:Int) (s:Int)=((a*2^s%18446744073709551616:Nat):Int):=by
 rw[wO _ _ hs]
 rw[←i9 s,←Int.natCast_mul]
 obtain⟨p,hp⟩:∃p,p=a*2^s:=⟨_,rfl⟩
 rw[←hp];omega
theorem yb {a s:Nat}(hs:s≤64):ci .u64 (a:Int) (s:Int)=((a/2^s:Nat):Int):=by
 rw[pT _ _ hs,←i9 s,Int.natCast_ediv]
theorem DM (a:Nat):ci .u64 (a:Int) 32=((a/4294967296:Nat):Int):=yb (a:=a) (s:=32) (by decide)
theorem Dn {a:Nat}(h:a<18446744073709551616):dl .u64 (a:Int) 4294967295=((a%4294967296:Nat):Int):=by
 rw[v3 (by omega) (by omega)];omega
theorem xM {P R hi lo d B:Nat}(hR:0<R)(hP:0<P)(hW:P*R=B*B)(hd:d*P<B*B)(hn:B*B≤2*(d*P))(h:hi<d)(hlo:lo<B*B)(hB:2≤B)(hBe:B%2=0):
  lo/R<P∧hi*P<B*B∧hi*P+lo/R<d*P∧(hi*P+lo/R)*(B*B)+lo*P%(B*B)=(hi*(B*B)+lo)*P∧d*P/B<B∧B≤2*(d*P/B):=by
 have h1:lo/R<P:=Nat.div_lt_of_lt_mul (by rw[Nat.mul_comm,hW];exact hlo)
 have h2:(hi+1)*P≤d*P:=Nat.mul_le_mul_right _ h
 rw[Nat.add_mul,Nat.one_mul]at h2
 refine⟨h1,by omega,by omega,?_,Nat.div_lt_of_lt_mul hd,?_⟩
 ·have e1:lo*P=lo/R*(B*B)+lo%R*P:=by
   rw[←hW,Nat.mul_comm P R,←Nat.mul_assoc,←Nat.add_mul,Nat.div_add_mod']
  have l1:lo%R*P<B*B:=by
   rw[←hW,Nat.mul_comm P R]
   exact Nat.mul_lt_mul_of_pos_right (Nat.mod_lt _ hR) hP
  have e2:lo*P%(B*B)=lo%R*P:=by
   rw[e1,Nat.mul_comm (lo/R),Nat.mul_add_mod,Nat.mod_eq_of_lt l1]
  rw[e2,Nat.add_mul,Nat.add_mul,e1,Nat.mul_right_comm hi P]
  omega
 ·obtain⟨c,hc⟩:∃c,B=2*c:=⟨B/2,by omega⟩
  have:c≤d*P/B:=by
   rw[Nat.le_div_iff_mul_le (by omega)]
   have:B*B=2*(c*B):=by rw[←Nat.mul_assoc,←hc]
   omega
  omega
theorem AY {hi lo d:Nat}(h:hi<d)(hd:d<18446744073709551616)(hlo:lo<18446744073709551616):
  df (((hi:Int),(lo:Int),(d:Int),()),())=some (((((hi*18446744073709551616+lo)/d:Nat):Int),(((hi*18446744073709551616+lo)%d:Nat):Int),()),()):=by
 unfold df
 dsimp only
 rw[aG (show(d:Int)≠0 by omega),ap,aa,ar]
 dsimp only
 rw[jy (show ¬(d:Int)≤hi by omega),ap,aa,ar]
 dsimp only
 by_cases h0:hi=0
 ·subst h0
  rw[show eqI ((0:Nat):Int) 0=true from rfl,aR,aG (show(d:Int)≠0 by omega),dp,aR,aR,quoN hlo,remN]
  rw[Nat.zero_mul,Nat.zero_add]
 ·rw[aG (show(hi:Int)≠0 by omega),ap]
  obtain⟨l,hl,l1,l64,b1,b2⟩:=A0 (show 1≤d by omega) hd
  have hlz:bz (((d:Int),()),())=some (((64-l:Nat):Int),()):=by
   unfold bz
   rw[hl,aa]
   dsimp only
   rw[eu (by omega) (by omega)]
   rw[show(64:Int)-l=((64-l:Nat):Int)by omega]
  rw[hlz,aa]
  dsimp only
  obtain⟨s,hs⟩:∃s,s=64-l:=⟨_,rfl⟩
  rw[←hs]
  have hs63:s≤63:=by omega
  have hws:ak .u64 (s:Int)=(s:Int):=cr (by omega) (by omega)
  rw[hws,ah (fv (by omega)),ah (fv (by omega))]
  have e64:aM .u64 64 (s:Int)=((64-s:Nat):Int):=subN (a:=64) (by omega) (by decide)
  rw[e64,ah (fv (by omega)),ah (fv (by omega))]
  have hPR:2^s*2^(64-s)=4294967296*4294967296:=by
   rw[←Nat.pow_add,show s+(64-s)=64 by omega]
  have hY2:d*2^s<4294967296*4294967296:=by
   have:d*2^s<2^l*2^s:=Nat.mul_lt_mul_of_pos_right b2 (Nat.two_pow_pos s)
   rw[←Nat.pow_add,show l+s=64 by omega]at this
   exact this
  have hY1:4294967296*4294967296≤2*(d*2^s):=by
   have:2^(l-1)*2^s≤d*2^s:=Nat.mul_le_mul_right _ b1
   rw[←Nat.pow_add,show l-1+s=63 by omega]at this
   have e:(4294967296*4294967296:Nat)=2*2^63:=by decide
   rw[e];exact Nat.mul_le_mul_left 2 this
  obtain⟨c1,c2,c3,c4,c5,c6⟩:=xM (Nat.two_pow_pos (64-s)) (Nat.two_pow_pos s) hPR hY2 hY1 h (B:=4294967296) (lo:=lo) hlo (by decide) (by decide)
  rw[DL (a:=d) (by omega),DL (a:=hi) (by omega),DL (a:=lo) (by omega),yb (a:=lo) (s:=64-s) (by omega)]
  rw[Nat.mod_eq_of_lt hY2,Nat.mod_eq_of_lt c2]
  have hul:hi*2^s+lo/2^(64-s)<18446744073709551616:=Nat.lt_trans c3 hY2
  rw[iorN c2 c1 hul,DM,DM,Dn hY2]
  have hL:lo*2^s%18446744073709551616<18446744073709551616:=Nat.mod_lt _ (by decide)
  rw[Dn hL]
  obtain⟨X,hX⟩:∃X,X=hi*18446744073709551616+lo:=⟨_,rfl⟩
  have c4':(hi*2^s+lo/2^(64-s))*18446744073709551616+lo*2^s%18446744073709551616=X*2^s:=by rw[hX];exact c4
  rw[←hX]
  have nd:=Cr (X:=X) (y0:=d) (s:=s)
  obtain⟨u,hu⟩:∃u,u=hi*2^s+lo/2^(64-s):=⟨_,rfl⟩
  obtain⟨y,hy⟩:∃y,y=d*2^s:=⟨_,rfl⟩
  obtain⟨L,hLe⟩:∃L,L=lo*2^s%18446744073709551616:=⟨_,rfl⟩
  rw[←hu,←hLe]at c4'
  rw[←hu,←hy]at c3
  rw[←hy]at c5 c6 nd hY2
  rw[←hu]at hul
  rw[←hLe]at hL
  rw[←hu,←hy,←hLe]
  rw[←c4']at nd
  obtain⟨y1,hy1⟩:∃v,v=y/4294967296:=⟨_,rfl⟩
  obtain⟨y0,hy0⟩:∃v,v=y%4294967296:=⟨_,rfl⟩
  obtain⟨d1,hd1⟩:∃v,v=L/4294967296:=⟨_,rfl⟩
  obtain⟨d0,hd0⟩:∃v,v=L%4294967296:=⟨_,rfl⟩
  rw[←hy1,←hy0,←hd1,←hd0]
  rw[←hy1]at c5 c6
  have hyy:y=y1*4294967296+y0:=by omega
  have hLL:L=d1*4294967296+d0:=by omega
  have D:Dig y1 y0 u d1:=⟨by omega,c5,c6,by rw[←hyy];exact c3,by omega⟩
  have D2:Dig y1 y0 ((u*4294967296+d1)%(y1*4294967296+y0)) d0:=⟨by omega,c5,c6,Nat.mod_lt _ D.y_pos,by omega⟩
  have hq:=D.f hyy
  have hq2:=D2.f hyy
  obtain⟨t1,t2⟩:=yi D D2
  rw[←hLL,←hyy]at t1 t2
  rw[←hyy]at hq hq2
  have hy1p:0<y1:=hq.p1
  have hmq:u/y1*y1<18446744073709551616:=Nat.lt_of_le_of_lt (Nat.div_mul_le_self u y1) hul
  have hrm:u-u/y1*y1=u%y1:=by have:=Nat.div_add_mod' u y1;omega
  rw[aG (show(y1:Int)≠0 by omega),dp,aR,quoN hul,AT hmq,subN (Nat.div_mul_le_self u y1) hul,hrm]
  exact Bj hq hq2 hs63 (t1.symm.trans nd.1) (by rw[←t2];exact nd.2) rfl
end Go.Den.G
