/- Theory for the proofs of this claim: see its last text. -/
import Derived.Test.YtjbcmjmooafgdaaGreatFnServe
import Derived.Test.YtjbcmjmooafgdaaGreatDenF
import Derived.KernelRfl
import Derived.Laws.MathBits
namespace Go.Den.G
open Go.Den
set_option maxRecDepth 100000
theorem oP (n:Int)(h0:1≤n)(h1:n≤274877906944):∃t,aN ((n,()),())=some (t,()):=by
 unfold aN
 dsimp only
 rw[af (qw (by omega))]
 refine gj (fun x=>0≤x.1.1∧(x.1.2.1.length:Int)+x.1.1≤n) (fun x=>x.1.1.toNat) (fun _ r=>∃t,r=some (t,())) ?_ F _ ⟨by show(0:Int)≤n;omega,by show((0:Nat):Int)+n≤n;omega⟩ (by show n.toNat<F;unfold F;omega)
 rintro⟨⟨x,s,_⟩,_⟩ rec ⟨h2,h3⟩ hrec
 dsimp only at h2 h3 hrec⊢
 by_cases hx:0<x
 ·have hq:sd .i64 x 10=x/10:=by
   unfold sd
   rw[Int.tdiv_eq_ediv_of_nonneg h2]
   exact bP (by unfold I64;omega)
  rw[aa (eR hx),aa (by unfold dR lim fg;simp;omega),hq]
  exact hrec _ ⟨by dsimp only;omega,by dsimp only;unfold dN fg;simp;omega⟩ (by dsimp only;omega)
 ·rw[af (eP hx),aa (by unfold dR lim;simp;omega)]
  exact⟨_,rfl⟩
noncomputable def mt (n:Int):List UInt8:=match aN ((n,()),())with
 |some x=>x.1
 |none=>[]
theorem j8 (n:Int)(h0:1≤n)(h1:n≤274877906944):aN ((n,()),())=some (mt n,()):=by
 obtain⟨t,h⟩:=oP n h0 h1
 unfold mt;rw[h]
theorem rt {α:Type}{l:List α}{i:Nat}(h:i<l.length)(v d:α):aD (ea l (i:Int) v) (i:Int) d=v:=by
 unfold aD ea
 rw[Int.toNat_natCast,List.getD_eq_getElem?_getD,List.getElem?_set_self h];rfl
theorem sl {α:Type}(l:List α)(i:Int)(v w:α):ea (ea l i v) i w=ea l i w:=by
 unfold ea;rw[List.set_set]
theorem tW {α:Type}(l:List α)(i:Int)(v:α):(ea l i v).length=l.length:=by unfold ea;rw[List.length_set]
theorem tI {α:Type}(f:Nat→α){l:List α}{j:Nat}(h:j<l.length):ea ((List.range j).map f++l.drop j) (j:Int) (f j)=(List.range (j+1)).map f++l.drop (j+1):=by
 unfold ea
 rw[Int.toNat_natCast,List.set_append,if_neg (by simp),List.length_map,List.length_range,Nat.sub_self,List.drop_eq_getElem_cons h,List.set_cons_zero,List.range_succ,List.map_append,List.append_assoc]
 rfl
noncomputable def mkP (m:Int)(i:Nat):Page:=Page.mk (m+3*(i:Int)) (m+3*(i:Int)+1) (mt (m+3*(i:Int)+2))
noncomputable def rU (m:Int)(n:Nat):List Page:=(List.range n).map (mkP m)
theorem tK (m:Int)(n:Nat):(rU m n).length=n:=by simp[rU]
theorem nG (m:Int)(l:List Page)(h0:1≤m)(h1:m≤68719476736)(hl:l.length≤1073741824):
  bZ ((m,()),l,())=some (m+3*l.length,rU m l.length,()):=by
 unfold bZ
 dsimp only
 refine(Ret.iter (fun y=>∃j:Nat,j≤l.length∧y=((m+3*(j:Int),(j:Int),()),(List.range j).map (mkP m)++l.drop j,())) (fun y=>l.length-y.1.2.1.toNat) ?_ F _ ⟨0,by omega,by simp⟩ (by unfold F;simp;omega)).eq
 rintro _ rec ⟨j,hj,rfl⟩ hrec
 dsimp only
 have hlen:((List.range j).map (mkP m)++l.drop j).length=l.length:=by rw[List.length_append,List.length_map,List.length_range,List.length_drop];omega
 obtain⟨a,ha⟩:∃a,a=(List.range j).map (mkP m)++l.drop j:=⟨_,rfl⟩
 rw[←ha]at hlen⊢
 simp only[ar,tW,hlen]
 by_cases h:j<l.length
 ·have hja:j<a.length:=by omega
  have e1:aJ .i64 (m+3*(j:Int)) 1=m+3*j+1:=bb (by omega) (by omega)
  have e2:aJ .i64 (m+3*(j:Int)+1) 1=m+3*j+2:=by rw[bb (by omega) (by omega)];omega
  have e3:aJ .i64 (m+3*(j:Int)+2) 1=m+3*((j+1:Nat):Int):=by rw[bb (by omega) (by omega)];omega
  have hr:inR (j:Int) (l.length:Int)=true:=cG (by omega) (by omega)
  rw[aa (eR (by omega)),hr,cZ,cZ,e1,e2,j8 (m+3*(j:Int)+2) (by omega) (by omega),ag,cZ,e3,bb (by omega) (by omega)]
  simp only[sl,rt hja]
  refine hrec _ ⟨j+1,by omega,?_⟩ (by dsimp only;omega)
  have:=tI (mkP m) h
  rw[←ha]at this
  rw[←this]
  rfl
 ·have:j=l.length:=by omega
  subst this
  rw[af (eP (by omega)),ha]
  exact Ret.some (by rw[List.drop_length,List.append_nil];rfl)
theorem tJ (m:Int){n j:Nat}(h:j<n):aD (rU m n) (j:Int) (au .page)=mkP m j:=by
 unfold aD rU
 rw[Int.toNat_natCast,List.getD_eq_getElem?_getD,List.getElem?_map,List.getElem?_range h];rfl
theorem na (m:Int)(n:Nat)(h0:1≤m)(h1:m≤68719476736)(hl:n≤1073741824):bY ((rU m n,m,()),())=some (m+3*n,()):=by
 unfold bY
 dsimp only
 refine(Ret.iter (fun y=>∃j:Nat,j≤n∧y=((rU m n,m+3*(j:Int),(j:Int),()),())) (fun y=>n-y.1.2.2.1.toNat) ?_ F _ ⟨0,by omega,by simp⟩ (by unfold F;simp;omega)).eq
 rintro _ rec ⟨j,hj,rfl⟩ hrec
 dsimp only
 simp only[ar,tK]
 by_cases h:j<n
 ·have e1:aJ .i64 (m+3*(j:Int)) 1=m+3*j+1:=bb (by omega) (by omega)
  have e2:aJ .i64 (m+3*(j:Int)+1) 1=m+3*j+2:=by rw[bb (by omega) (by omega)];omega
  have e3:aJ .i64 (m+3*(j:Int)+2) 1=m+3*((j+1:Nat):Int):=by rw[bb (by omega) (by omega)];omega
  have hr:inR (j:Int) (n:Int)=true:=cG (by omega) (by omega)
  rw[aa (eR (by omega)),hr,cZ,cZ,cZ,tJ m h]
  dsimp only[mkP]
  rw[fe rfl,bm,eQ,e1,fe rfl,bm,eQ,e2,j8 (m+3*(j:Int)+2) (by omega) (by omega),ag,show∀t:List UInt8,eqS t t=true from fun t=>decide_eq_true rfl,bm,eQ,e3,bb (by omega) (by omega)]
  exact hrec _ ⟨j+1,by omega,rfl⟩ (by dsimp only;omega)
 ·have:j=n:=by omega
  subst this
  rw[af (eP (by omega))]
  exact Ret.some rfl
theorem mp (m:Int)(l:List Page)(h0:1≤m)(h1:m≤68719476736)(hl:l.length≤1073741824):
  bJ (((),m,()),l,())=some (m+3*l.length,rU m l.length,()):=by
 unfold bJ
 dsimp only
 rw[nG m l h0 h1 hl,ag]
theorem mc (m:Int)(n:Nat)(h0:1≤m)(h1:m≤68719476736)(hl:n≤1073741824):bI (((rU m n,()),m,()),())=some (m+3*n,()):=by
 unfold bI
 dsimp only
 rw[na m n h0 h1 hl,ag]
 dsimp only
 rw[af (eP (by omega))]
set_option maxRecDepth 100000
def pg (m:List Page)(i:Int):Page:=aD m i (au .page)
def inB (a b c:Int):Bool:=decide (b≤a)&&decide (a≤c)
theorem ju (a b c:Int):am ((a,b,c,()),())=some (inB a b c,()):=by
 unfold am inB
 dsimp only
 by_cases h:b≤a
 ·rw[aa (oL h),ag];simp[leI,h]
 ·rw[af (qw h),ag];simp[h]
theorem ob (a b c:Int):ae ((a,b,c,()),())=some (inB a b c,()):=ju a b c
def eW (b:Int):Bool:=inB b 0 65535&&eqI (gN b 256) 0
def fM (p:Int):Bool:=inB p 0 7
theorem lw (b:Int):cN ((b,()),())=some (eW b,()):=by
 unfold cN eW
 rw[ju,ag]
 dsimp only
 cases inB b 0 65535<;>simp[cZ,eQ,ag]
theorem rB (b:Int):ef ((b,()),())=some (eW b,()):=lw b
theorem lx (b:Int):cO ((b,()),())=some (fM b,()):=by
 unfold cO fM
 rw[ju,ag]
theorem rD (b:Int):eh ((b,()),())=some (fM b,()):=lx b
def good (m:List Page)(i:Int):Bool:=
 eW (pg m i).base&&(fM (pg m i).perm&&(eqI ((pg m i).data.length:Int) 256&&(!decide (0<i)||ltI (pg m (i-1)).base (pg m i).base)))
def fq (m:List Page)(i:Nat):Bool:=(List.range' i (m.length-i)).all fun j=>good m j
theorem ko {m:List Page}{i:Nat}(h:i<m.length):fq m i=(good m i&&fq m (i+1)):=by
 unfold fq
 rw[show m.length-i=(m.length-(i+1))+1 by omega,List.range'_succ]
 rfl
theorem lI {m:List Page}{i:Nat}(h:m.length≤i):fq m i=true:=by
 unfold fq
 rw[show m.length-i=0 by omega];rfl
def iK (m:List Page):Bool:=decide ((m.length:Int)≤32)&&fq m 0
theorem lq (m:List Page)(i:Nat):good m i=(eW (pg m i).base&&(fM (pg m i).perm&&(eqI ((pg m i).data.length:Int) 256&&(!decide (0<(i:Int))||ltI (pg m ((i:Int)-1)).base (pg m i).base)))):=rfl
theorem nB (a b:Int):leI a b= !ltI b a:=by unfold leI ltI;by_cases h:a≤b<;>simp[h]<;>omega
theorem jn (m:List Page)(hm:(m.length:Int)<4611686018427387904):cr (((m,()),()),())=some (iK m,()):=by
 unfold cr iK
 simp only[ar]
 by_cases h32:(32:Int)<m.length
 ·rw[aa (eR h32)];simp[show ¬(m.length:Int)≤32 by omega]
 ·rw[af (eP h32)]
  refine(cy (fun x=>x.2.1.1=m∧0≤x.1.1∧x.1.1≤(m.length:Int)) (fun x=>m.length-x.1.1.toNat) (fun x=>some (fq m x.1.1.toNat,())) ?_ F _ ?_ ?_).trans ?_
  ·rintro⟨⟨i,_⟩,⟨xs,_⟩,_⟩ rec ⟨rfl,h0,h1⟩ hrec
   dsimp only at h0 h1 hrec hm h32⊢
   by_cases hi:i<xs.length
   ·obtain⟨n,rfl⟩:=Int.eq_ofNat_of_zero_le h0
    have hn:n<xs.length:=by omega
    rw[aa (eR hi),aa (cG h0 hi),lw,ag]
    dsimp only
    have hst:rec (((aJ IntKind.i64 (n:Int) 1),()),(xs,()),())=some (fq xs (n+1),()):=by
     rw[bK (by unfold I64;omega)]
     rw[hrec _ ⟨rfl,by dsimp only;omega,by dsimp only;omega⟩ (by dsimp only;omega)]
     rfl
    rw[hst,Int.toNat_natCast,ko hn,lq]
    show _=some ((eW (aD xs (n:Int) (au .page)).base&&_)&&_,())
    cases eW (aD xs (n:Int) (au .page)).base
    ·rfl
    ·rw[eZ,Bool.not_true,eQ,lx,ag]
     dsimp only
     show _=some ((true&&(fM (aD xs (n:Int) (au .page)).perm&&_))&&_,())
     cases fM (aD xs (n:Int) (au .page)).perm
     ·rfl
     ·rw[eZ,Bool.not_true,eQ,eZ]
      show _=some ((true&&(true&&(eqI ((aD xs (n:Int) (au .page)).data.length:Int) 256&&_)))&&_,())
      cases eqI ((aD xs (n:Int) (au .page)).data.length:Int) 256
      ·rfl
      ·rw[Bool.not_true,eQ]
       by_cases hp:0<(n:Int)
       ·rw[aa (eR hp),c6 (by unfold I64;omega),aa (cG (by omega) (by omega)),nB]
        show _=some ((true&&(true&&(true&&(!decide (0<(n:Int))||ltI (aD xs ((n:Int)-1) (au .page)).base (aD xs (n:Int) (au .page)).base))))&&_,())
        rw[show decide (0<(n:Int))=true from decide_eq_true hp]
        cases ltI (aD xs ((n:Int)-1) (au .page)).base (aD xs (n:Int) (au .page)).base
        ·simp[cZ]
        ·simp[eQ]
       ·rw[af (eP hp),show decide (0<(n:Int))=false from decide_eq_false hp];simp
   ·rw[af (eP hi),lI (by omega)]
  ·exact⟨rfl,by simp,by simp⟩
  ·simp[F];omega
  ·simp[show(m.length:Int)≤32 by omega]
theorem ji (m:List Page)(hm:(m.length:Int)<4611686018427387904)(hF:m.length<F):ck (((m,()),()),())=some (iK m,()):=by
 unfold ck iK
 simp only[ar]
 refine(cy (fun x=>x.2.1.1=m∧x.1.1=m∧x.1.2.1=(m.length:Int)∧0≤x.1.2.2.1∧x.1.2.2.1≤(m.length:Int)) (fun x=>m.length-x.1.2.2.1.toNat) (fun x=>some (decide ((m.length:Int)≤32)&&fq m x.1.2.2.1.toNat,())) ?_ F _ ?_ ?_).trans ?_
 ·rintro⟨⟨ys,len,i,_⟩,⟨xs,_⟩,_⟩ rec ⟨rfl,h2,h3,h0,h1⟩ hrec
  dsimp only at h0 h1 h2 h3 hrec hm hF⊢
  subst h2
  subst h3
  by_cases hi:i<ys.length
  ·obtain⟨n,rfl⟩:=Int.eq_ofNat_of_zero_le h0
   have hn:n<ys.length:=by omega
   rw[aa (eR hi),aa (cG h0 hi),rB,ag]
   dsimp only
   have hst:rec ((ys,(ys.length:Int),(aJ IntKind.i64 (n:Int) 1),()),(ys,()),())=some (decide ((ys.length:Int)≤32)&&fq ys (n+1),()):=by
    rw[bK (by unfold I64;omega)]
    rw[hrec _ ⟨rfl,rfl,rfl,by dsimp only;omega,by dsimp only;omega⟩ (by dsimp only;omega)]
    rfl
   rw[hst,Int.toNat_natCast,ko hn,lq]
   show _=some (_&&((eW (aD ys (n:Int) (au .page)).base&&_)&&_),())
   cases eW (aD ys (n:Int) (au .page)).base
   ·simp[eZ,cZ]
   ·rw[eZ,Bool.not_true,eQ,rD,ag]
    dsimp only
    show _=some (_&&((true&&(fM (aD ys (n:Int) (au .page)).perm&&_))&&_),())
    cases fM (aD ys (n:Int) (au .page)).perm
    ·simp[eZ,cZ]
    ·rw[eZ,Bool.not_true,eQ,eZ]
     show _=some (_&&((true&&(true&&(eqI ((aD ys (n:Int) (au .page)).data.length:Int) 256&&_)))&&_),())
     cases eqI ((aD ys (n:Int) (au .page)).data.length:Int) 256
     ·simp[cZ]
     ·rw[Bool.not_true,eQ]
      by_cases hp:0<(n:Int)
      ·rw[aa (eR hp),c6 (by unfold I64;omega),aa (cG (by omega) (by omega)),nB]
       show _=some (_&&((true&&(true&&(true&&(!decide (0<(n:Int))||ltI (aD ys ((n:Int)-1) (au .page)).base (aD ys (n:Int) (au .page)).base))))&&_),())
       rw[show decide (0<(n:Int))=true from decide_eq_true hp]
       cases ltI (aD ys ((n:Int)-1) (au .page)).base (aD ys (n:Int) (au .page)).base
       ·simp[cZ]
       ·simp[eQ]
      ·rw[af (eP hp),show decide (0<(n:Int))=false from decide_eq_false hp];simp
  ·rw[af (eP hi),lI (by omega)]
   simp[leI]
 ·exact⟨rfl,rfl,rfl,by simp,by simp⟩
 ·simpa using hF
 ·simp
def leN:List UInt8→Nat
 |[]=>0
 |b::r=>b.toNat+256*leN r
theorem rK:∀(t:List UInt8),leN t<256^t.length
 |[]=>by simp[leN]
 |b::r=>by
  have:=rK r
  have hb:b.toNat<256:=b.toNat_lt
  simp only[leN,List.length_cons,Nat.pow_succ]
  omega
theorem pI:∀(t:List UInt8) (k:Nat) (h:k<t.length),leN (t.take (k+1))=leN (t.take k)+t[k].toNat*256^k
 |[],k,h=>by simp at h
 |b::r,0,_=>by simp[leN]
 |b::r,k+1,h=>by
  have hk:k<r.length:=by simpa using h
  have:=pI r k hk
  simp only[List.take_succ_cons,leN,List.getElem_cons_succ,Nat.pow_succ]at this⊢
  rw[this,Nat.mul_add]
  have:256*(r[k].toNat*256^k)=r[k].toNat*(256^k*256):=by rw[Nat.mul_left_comm,Nat.mul_comm 256 (256^k)]
  omega
theorem tz (t:List UInt8)(k:Nat)(h:k<t.length):leN (t.drop k)=t[k].toNat+256*leN (t.drop (k+1)):=by
 rw[List.drop_eq_getElem_cons h,leN]
theorem ld {t:List UInt8}{k:Nat}(h:k<t.length):fL t (k:Int)=(t[k].toNat:Int):=by simp[fL,h]
theorem sv {n:Int}(h0:0≤n)(h:n<18446744073709551616):IntKind.wrap .u64 n=n:=by
 simp only[IntKind.wrap,IntKind.bits,IntKind.signed,Bool.false_and]
 simp only[show(2:Int)^64=18446744073709551616 from rfl]
 simp only[Bool.false_eq_true,if_false]
 exact Int.emod_eq_of_lt h0 h
theorem qu (t:List UInt8)(h8:t.length≤8):cM ((t,0,(t.length:Int),()),())=some (IntKind.wrap .i64 (leN t),()):=by
 unfold cM
 simp only[ar]
 rw[c6 (by unfold I64;omega)]
 refine(cy (fun x=>x.1.1=t∧x.1.2.1=0∧ -1≤x.1.2.2.2.1∧x.1.2.2.2.1<(t.length:Int)∧x.1.2.2.1=(leN (t.drop (x.1.2.2.2.1+1).toNat):Int)) (fun x=>(x.1.2.2.2.1+1).toNat) (fun _=>some (IntKind.wrap .i64 (leN t),())) ?_ F _ ?_ ?_)
 ·rintro⟨⟨s,z,v,i,_⟩,_⟩ rec ⟨rfl,hz,h0,h1,h2⟩ hrec
  dsimp only at hz h0 h1 h2 hrec h8⊢
  subst hz
  by_cases hi:0≤i
  ·obtain⟨n,rfl⟩:=Int.eq_ofNat_of_zero_le hi
   have hn:n<s.length:=by omega
   have hlt:=rK (s.drop (n+1))
   have hb:s[n].toNat<256:=s[n].toNat_lt
   have hpow:256^(s.drop (n+1)).length≤256^7:=Nat.pow_le_pow_right (by decide) (by rw[List.length_drop];omega)
   rw[show(256:Nat)^7=72057594037927936 from rfl]at hpow
   rw[show((n:Int)+1).toNat=n+1 by omega]at h2
   rw[aa (oL hi),bK (by unfold I64;omega),show(0:Int)+n=n by omega,aa (cG hi (by omega)),ld hn]
   rw[hrec _ ⟨rfl,rfl,?_,?_,?_⟩ ?_]
   ·dsimp only;rw[c6 (by unfold I64;omega)];omega
   ·dsimp only;rw[c6 (by unfold I64;omega)];omega
   ·dsimp only
    rw[c6 (by unfold I64;omega),show((n:Int)-1+1).toNat=n by omega,tz s n hn,h2]
    unfold aJ fE aF
    rw[sv (n:=256*(leN (s.drop (n+1)):Int)) (by omega) (by omega),sv (n:=(s[n].toNat:Int)) (by omega) (by omega),sv (by omega) (by omega)]
    omega
   ·dsimp only;rw[c6 (by unfold I64;omega)];omega
  ·obtain rfl:i= -1:=by omega
   rw[af (qw hi),h2]
   rfl
 ·refine⟨rfl,rfl,by dsimp only;omega,by dsimp only;omega,?_⟩
  dsimp only
  rw[show((t.length:Int)-1+1).toNat=t.length by omega,List.drop_length]
  rfl
 ·simp[F];omega
theorem qC (x:Int):BitVec.ofInt 64 (IntKind.wrap .i64 x)=BitVec.ofInt 64 x:=by
 apply BitVec.eq_of_toNat_eq
 simp only[BitVec.toNat_ofInt,IntKind.wrap,IntKind.bits,IntKind.signed,Bool.true_and,decide_eq_true_eq,ge_iff_le]
 simp only[show(2:Int)^64=18446744073709551616 from rfl,show(2:Int)^(64-1)=9223372036854775808 from rfl,show((2^64:Nat):Int)=18446744073709551616 from rfl]
 split<;>omega
theorem tp (a c k:Nat)(ha:a<2^k)(hc:a+c*2^k<18446744073709551616):ior .i64 (a:Int) (IntKind.wrap .i64 ((c:Int)*2^k))=IntKind.wrap .i64 ((a+c*2^k:Nat):Int):=by
 unfold ior
 rw[show IntKind.i64.bits=64 from rfl,qC]
 congr 1
 rw[BitVec.toNat_or]
 have e1:(BitVec.ofInt 64 (a:Int)).toNat=a:=by
  rw[BitVec.toNat_ofInt];simp only[show((2^64:Nat):Int)=18446744073709551616 from rfl];omega
 have e2:(BitVec.ofInt 64 ((c:Int)*2^k)).toNat=c*2^k:=by
  rw[BitVec.toNat_ofInt];simp only[show((2^64:Nat):Int)=18446744073709551616 from rfl]
  rw[show((c:Int)*2^k)=((c*2^k:Nat):Int)by simp]
  omega
 rw[e1,e2,Nat.or_comm,←Nat.shiftLeft_eq,←Nat.shiftLeft_add_eq_or_of_lt ha,Nat.shiftLeft_eq,Nat.add_comm]
theorem take_eq (t:List UInt8)(h8:t.length≤8):eG ((t,()),())=some (IntKind.wrap .i64 (leN t),()):=by
 unfold eG
 simp only[ar]
 refine(cy (fun x=>x.1.1=t∧x.1.2.2.1=(t.length:Int)∧0≤x.1.2.2.2.1∧x.1.2.2.2.1≤(t.length:Int)∧x.1.2.1=IntKind.wrap .i64 (leN (t.take x.1.2.2.2.1.toNat))) (fun x=>t.length-x.1.2.2.2.1.toNat) (fun _=>some (IntKind.wrap .i64 (leN t),())) ?_ F _ ?_ ?_)
 ·rintro⟨⟨s,acc,len,i,_⟩,_⟩ rec ⟨rfl,hz,h0,h1,h2⟩ hrec
  dsimp only at hz h0 h1 h2 hrec h8⊢
  subst hz
  by_cases hi:i<s.length
  ·obtain⟨n,rfl⟩:=Int.eq_ofNat_of_zero_le h0
   have hn:n<s.length:=by omega
   have hlt:=rK (s.take n)
   rw[List.length_take,Nat.min_eq_left (by omega)]at hlt
   have hb:s[n].toNat<256:=s[n].toNat_lt
   have hpow:256^n≤256^7:=Nat.pow_le_pow_right (by decide) (by omega)
   rw[show(256:Nat)^7=72057594037927936 from rfl]at hpow
   have h256:(256:Nat)^n=2^(8*n):=by rw[Nat.pow_mul]
   rw[Int.toNat_natCast]at h2
   rw[aa (eR hi),aa (cG h0 hi),pL (by unfold I64;omega),aa (oL (by omega)),ld hn,qb (by unfold I64;omega)]
   rw[hrec _ ⟨rfl,rfl,?_,?_,?_⟩ ?_]
   ·dsimp only;rw[bK (by unfold I64;omega)];omega
   ·dsimp only;rw[bK (by unfold I64;omega)];omega
   ·dsimp only
    rw[bK (by unfold I64;omega),show((n:Int)+1).toNat=n+1 by omega,pI s n hn,h2,bP (n:=(leN (s.take n):Int)) (by unfold I64;omega)]
    unfold gR
    rw[show min (8*(n:Int)).toNat IntKind.i64.bits=8*n by rw[show IntKind.i64.bits=64 from rfl];omega]
    have hmul:s[n].toNat*256^n≤255*256^n:=Nat.mul_le_mul_right _ (by omega)
    have:=tp (leN (s.take n)) s[n].toNat (8*n) (by rw[←h256];exact hlt) (by rw[←h256];omega)
    rw[this,h256]
   ·dsimp only;rw[bK (by unfold I64;omega)];omega
  ·obtain rfl:i=s.length:=by omega
   rw[af (eP hi),h2,Int.toNat_natCast,List.take_length]
 ·refine⟨rfl,rfl,by dsimp only;omega,by dsimp only;omega,?_⟩
  rfl
 ·simp[F];omega
structure MemR (m:List Page):Prop where
 len:m.length≤32
 pg:∀x∈m,0≤x.base∧x.base≤65280∧x.base%256=0∧x.data.length=256
theorem ls {b:Int}(h:eW b=true):0≤b∧b≤65280∧b%256=0:=by
 simp only[eW,inB,Bool.and_eq_true,decide_eq_true_eq,eqI]at h
 obtain⟨⟨h0,h1⟩,h2⟩:=h
 have h2:b.tmod 256=0:=h2
 rw[Int.tmod_eq_emod_of_nonneg h0]at h2
 omega
theorem rT {m:List Page}(h:iK m=true):MemR m:=by
 simp only[iK,Bool.and_eq_true,decide_eq_true_eq,fq,List.all_eq_true]at h
 refine⟨by omega,fun x hx=>?_⟩
 obtain⟨i,hi,rfl⟩:=List.getElem_of_mem hx
 have:=h.2 i (by rw[List.mem_range'];exact⟨i,by omega,by omega⟩)
 unfold good pg at this
 rw[ch hi]at this
 simp only[Bool.and_eq_true,eqI,decide_eq_true_eq]at this
 obtain⟨h1,_,h3,_⟩:=this
 obtain⟨a,b,c⟩:=ls h1
 exact⟨a,b,c,by omega⟩
def ba (p:Page→Bool):List Page→Nat→Int
 |[],_=> -1
 |x::r,i=>if p x=true then(i:Int)else ba p r (i+1)
theorem ez (p:Page→Bool):∀(m:List Page) (i:Nat),(ba p m i= -1∧∀x∈m,p x=false)∨∃j,∃h:j<m.length,ba p m i=((i+j:Nat):Int)∧p m[j]=true
 |[],_=> .inl ⟨rfl,by simp⟩
 |x::r,i=>by
  simp only[ba]
  cases hx:p x with
  |true=>exact .inr ⟨0,by simp,by simp,by simpa using hx⟩
  |false=>
   rcases ez p r (i+1)with ⟨h1,h2⟩|⟨j,h,h1,h2⟩
   ·refine .inl ⟨by simpa using h1,fun y hy=>?_⟩
    rcases List.mem_cons.1 hy with rfl|hy
    ·exact hx
    ·exact h2 y hy
   ·refine .inr ⟨j+1,by simp;omega,?_,by simpa using h2⟩
    rw[if_neg (by simp),h1]
    congr 1;omega
theorem l7 {p:Page→Bool}{m:List Page}{i:Nat}(h:∀x∈m,p x=false):ba p m i= -1:=by
 rcases ez p m i with h1|⟨j,hj,_,h2⟩
 ·exact h1.1
 ·rw[h _ (List.getElem_mem hj)]at h2;cases h2
def ec (a:Int)(x:Page):Bool:=decide (x.base≤a)&&decide (a-x.base<256)
def fnd (m:List Page)(a:Int):Int:=ba (ec a) m 0
theorem fo (m:List Page)(hm:MemR m)(a:Int)(ha:I64 a):aH (((m,()),a,()),())=some (fnd m a,()):=by
 unfold aH
 simp only[ar]
 refine(cy (fun x=>x.2.1.1=m∧x.1.1=a∧0≤x.1.2.1∧x.1.2.1≤(m.length:Int)) (fun x=>m.length-x.1.2.1.toNat) (fun x=>some (ba (ec a) (m.drop x.1.2.1.toNat) x.1.2.1.toNat,())) ?_ F _ ?_ ?_).trans ?_
 ·rintro⟨⟨b,i,_⟩,⟨xs,_⟩,_⟩ rec ⟨h2,h3,h0,h1⟩ hrec
  dsimp only at h0 h1 h2 h3 hrec⊢
  subst h2
  subst h3
  have hlen:=hm.len
  by_cases hi:i<xs.length
  ·obtain⟨n,rfl⟩:=Int.eq_ofNat_of_zero_le h0
   have hn:n<xs.length:=by omega
   rw[aa (eR hi),aa (cG h0 hi),ch hn,Int.toNat_natCast,List.drop_eq_getElem_cons hn,ba]
   obtain⟨p0,p1,_,_⟩:=hm.pg _ (List.getElem_mem hn)
   have hst:rec ((b,aJ IntKind.i64 (n:Int) 1,()),(xs,()),())=some (ba (ec b) (xs.drop (n+1)) (n+1),()):=by
    rw[bK (by unfold I64;omega)]
    rw[hrec _ ⟨rfl,rfl,by dsimp only;omega,by dsimp only;omega⟩ (by dsimp only;omega)]
    rfl
   rw[hst]
   unfold I64 at ha
   by_cases hb:xs[n].base≤b
   ·rw[aa (oL hb),aa (cG h0 hi),ag,c6 (by unfold I64;omega)]
    by_cases hc:b-xs[n].base<256
    ·rw[aa (eR hc),if_pos (by simp[ec,hb,hc])]
    ·rw[af (eP hc),if_neg (by simp[ec,hc])]
   ·rw[af (qw hb),ag,eQ,if_neg (by simp[ec,hb])]
  ·rw[af (eP hi),List.drop_eq_nil_of_le (by omega)];rfl
 ·exact⟨rfl,rfl,by simp,by simp⟩
 ·have:=hm.len;simp[F];omega
 ·rfl
theorem nj (m:List Page)(hm:MemR m)(a:Int)(h0:0≤a)(h1:a≤65535):ah ((m,()),(a,()),())=some (fnd m a,(a,()),()):=by
 unfold ah bo
 simp only[ar]
 refine(cy (fun x=>x.1.1=m∧x.1.2.1=(m.length:Int)∧x.2.1.1=a∧0≤x.1.2.2.1∧x.1.2.2.1≤(m.length:Int)) (fun x=>m.length-x.1.2.2.1.toNat) (fun x=>some (ba (ec a) (m.drop x.1.2.2.1.toNat) x.1.2.2.1.toNat,(a,()),())) ?_ F _ ?_ ?_).trans ?_
 ·rintro⟨⟨xs,len,i,_⟩,⟨b,_⟩,_⟩ rec ⟨h2,h3,h4,h5,h6⟩ hrec
  dsimp only at h5 h6 h2 h3 h4 hrec⊢
  subst h2
  subst h3
  subst h4
  have hlen:=hm.len
  by_cases hi:i<xs.length
  ·obtain⟨n,rfl⟩:=Int.eq_ofNat_of_zero_le h5
   have hn:n<xs.length:=by omega
   rw[aa (eR hi),aa (cG h5 hi),ag,ch hn,Int.toNat_natCast,List.drop_eq_getElem_cons hn,ba]
   dsimp only
   obtain⟨p0,p1,p2,_⟩:=hm.pg _ (List.getElem_mem hn)
   have hst:rec ((xs,(xs.length:Int),aJ IntKind.i64 (n:Int) 1,()),(b,()),())=some (ba (ec b) (xs.drop (n+1)) (n+1),(b,()),()):=by
    rw[bK (by unfold I64;omega)]
    rw[hrec _ ⟨rfl,rfl,rfl,by dsimp only;omega,by dsimp only;omega⟩ (by dsimp only;omega)]
    rfl
   rw[hst,show gN b 256=b%256 from Int.tmod_eq_emod_of_nonneg h0,c6 (by unfold I64;omega)]
   by_cases hc:xs[n].base=b-b%256
   ·rw[aa (fe hc),if_pos (by simp only[ec,Bool.and_eq_true,decide_eq_true_eq];omega)]
   ·rw[af (eU hc),if_neg (by simp only[ec,Bool.and_eq_true,decide_eq_true_eq];omega)]
  ·rw[af (eP hi),List.drop_eq_nil_of_le (by omega)];rfl
 ·exact⟨rfl,rfl,rfl,by simp,by simp⟩
 ·have:=hm.len;simp[F];omega
 ·rfl
theorem ma {m:List Page}(hm:MemR m){a:Int}(h:¬(0≤a∧a≤65535)):fnd m a= -1:=by
 refine l7 fun x hx=>?_
 obtain⟨p0,p1,p2,_⟩:=hm.pg x hx
 simp only[ec,Bool.and_eq_false_iff,decide_eq_false_iff_not]
 omega
theorem cT (m:List Page)(hm:MemR m)(a:Int):an (((m,()),a,()),())=some (fnd m a,()):=by
 unfold an
 rw[ob,ag]
 dsimp only
 by_cases h:0≤a∧a≤65535
 ·rw[af (by simp[aQ,inB,h.1,h.2]),nj m hm a h.1 h.2,ag]
 ·rw[aa (by simp only[aQ,inB,Bool.not_eq_true',Bool.and_eq_false_iff,decide_eq_false_iff_not];omega),ma hm h]
theorem gY {m:List Page}(hm:MemR m)(a:Int):fnd m a= -1∨∃j,∃h:j<m.length,fnd m a=(j:Int)∧m[j].base≤a∧a-m[j].base<256∧0≤a∧a≤65535∧a-m[j].base=a%256∧m[j].data.length=256:=by
 rcases ez (ec a) m 0 with ⟨h,_⟩|⟨j,hj,h1,h2⟩
 ·exact .inl h
 ·obtain⟨p0,p1,p2,p3⟩:=hm.pg _ (List.getElem_mem hj)
  simp only[ec,Bool.and_eq_true,decide_eq_true_eq]at h2
  exact .inr ⟨j,hj,by rw[Nat.zero_add]at h1;exact h1,h2.1,h2.2,by omega,by omega,by omega,p3⟩
def b7 (m:List Page)(a perm:Int):Nat→Int→Int
 |0,_=>0
 |j+1,k=>if fnd m (a+k)<0 then 13 else if jq .i64 (aD m (fnd m (a+k)) (au .page)).perm perm=0 then 14 else b7 m a perm j (k+1)
theorem lk {m:List Page}(hm:MemR m){a perm:Int}(h:¬(0≤a∧a≤65535))(j:Nat):b7 m a perm (j+1) 0=13:=by
 rw[b7,Int.add_zero,ma hm h];rfl
theorem jQ {m:List Page}(hm:MemR m){a:Int}(h:¬fnd m a<0):inR (fnd m a) (m.length:Int)=true:=by
 rcases gY hm a with h1|⟨j,hj,h1,_⟩
 ·rw[h1]at h;exact absurd (by decide) h
 ·rw[h1];exact cG (by omega) (by omega)
theorem gB (m:List Page)(hm:MemR m)(a perm:Int)(n:Nat)(hn8:n≤8192)(ha:I64 a):aX (((m,()),a,(n:Int),perm,()),())=some (b7 m a perm n 0,()):=by
 unfold aX
 simp only[ar]
 refine(cy (fun x=>x.2.1.1=m∧x.1.1=a∧x.1.2.1=(n:Int)∧x.1.2.2.1=perm∧0≤x.1.2.2.2.1∧x.1.2.2.2.1≤(n:Int)∧(x.1.2.2.2.1=0∨(0≤a∧a≤65535))) (fun x=>n-x.1.2.2.2.1.toNat) (fun x=>some (b7 m a perm (n-x.1.2.2.2.1.toNat) x.1.2.2.2.1,())) ?_ F _ ?_ ?_).trans ?_
 ·rintro⟨⟨b,l,p,i,_⟩,⟨xs,_⟩,_⟩ rec ⟨h2,h3,h4,h5,h0,h1,h6⟩ hrec
  dsimp only at h0 h1 h2 h3 h4 h5 h6 hrec⊢
  subst h2 h3 h4 h5
  by_cases hi:i<(n:Int)
  ·obtain⟨k,rfl⟩:=Int.eq_ofNat_of_zero_le h0
   rw[aa (eR hi),c6 (by unfold I64;omega),ju,ag]
   dsimp only
   have hst:n-((k:Int)).toNat=(n-(k+1))+1:=by omega
   rw[hst]
   by_cases hr:0≤b∧b≤65535
   ·rw[af (by simp[aQ,inB];omega),bK (by unfold I64;omega),fo xs hm _ (by unfold I64;omega),ag,b7]
    dsimp only
    by_cases hf:fnd xs (b+k)<0
    ·rw[aa (eR hf),if_pos hf]
    ·rw[af (eP hf),if_neg hf,aa (jQ hm hf)]
     by_cases hp:jq .i64 (aD xs (fnd xs (b+k)) (au .page)).perm p=0
     ·rw[aa (fe hp),if_pos hp]
     ·rw[af (eU hp),if_neg hp,bK (by unfold I64;omega)]
      rw[hrec _ ⟨rfl,rfl,rfl,rfl,by dsimp only;omega,by dsimp only;omega,.inr hr⟩ (by dsimp only;omega)]
      dsimp only
      rw[show n-((k:Int)+1).toNat=n-(k+1)by omega]
   ·have hk:k=0:=by omega
    subst hk
    rw[show((0:Nat):Int)=0 from rfl,lk hm hr]
    by_cases hin:inB b (0-(n:Int)) 65535=true
    ·rw[af (by rw[hin];rfl),bK (by unfold I64 at *;omega),fo xs hm _ (by rw[Int.add_zero];exact ha),ag,Int.add_zero,ma hm hr]
     rfl
    ·rw[aa (by rw[Bool.not_eq_true]at hin;rw[hin];rfl)]
  ·have:i=n:=by omega
   subst this
   rw[af (eP hi),Int.toNat_natCast,Nat.sub_self];rfl
 ·exact⟨rfl,rfl,rfl,rfl,by simp,by simp,.inl rfl⟩
 ·simp[F];omega
 ·rfl
theorem mK (m:List Page)(hm:MemR m)(a perm:Int)(n:Nat)(_hn:1≤n)(hn8:n≤8192)(ha:I64 a):aX (((m,()),a,(n:Int),perm,()),())=some (b7 m a perm n 0,()):=gB m hm a perm n hn8 ha
theorem md (m:List Page)(hm:MemR m)(a perm:Int)(n:Nat)(hn8:n≤8192)(ha:I64 a)(hp0:perm≠0)(hn:1≤n):bh (((m,()),a,(n:Int),perm,()),())=some (b7 m a perm n 0,()):=by
 unfold bh
 simp only[ar]
 refine(cy (fun x=>x.2.1.1=m∧x.1.1=a∧x.1.2.2.1=(n:Int)∧x.1.2.1=perm∧0≤x.1.2.2.2.1∧x.1.2.2.2.1≤(n:Int)∧(x.1.2.2.2.1=0∨(0≤a∧a≤65535))) (fun x=>n-x.1.2.2.2.1.toNat) (fun x=>some (b7 m a perm (n-x.1.2.2.2.1.toNat) x.1.2.2.2.1,())) ?_ F _ ?_ ?_).trans ?_
 ·rintro⟨⟨b,p,l,i,_⟩,⟨xs,_⟩,_⟩ rec ⟨h2,h3,h4,h5,h0,h1,h6⟩ hrec
  dsimp only at h0 h1 h2 h3 h4 h5 h6 hrec⊢
  subst h2 h3 h4 h5
  by_cases hi:i<(n:Int)
  ·obtain⟨k,rfl⟩:=Int.eq_ofNat_of_zero_le h0
   rw[aa (eR hi),cT xs hm,ag]
   dsimp only
   have hst:n-((k:Int)).toNat=(n-(k+1))+1:=by omega
   rw[hst]
   by_cases hr:0≤b∧b≤65535
   ·rw[bK (by unfold I64;omega),b7]
    by_cases hf:fnd xs (b+k)<0
    ·rw[aa (eR hf),if_pos hf]
    ·rw[af (eP hf),if_neg hf,aa (jQ hm hf),aa (by rw[eU hp0];rfl),ag]
     by_cases hp:jq .i64 (aD xs (fnd xs (b+k)) (au .page)).perm p=0
     ·rw[aa (fe hp),if_pos hp]
     ·rw[af (eU hp),if_neg hp,bK (by unfold I64;omega)]
      rw[hrec _ ⟨rfl,rfl,rfl,rfl,by dsimp only;omega,by dsimp only;omega,.inr hr⟩ (by dsimp only;omega)]
      dsimp only
      rw[show n-((k:Int)+1).toNat=n-(k+1)by omega]
   ·have hk:k=0:=by omega
    subst hk
    rw[show((0:Nat):Int)=0 from rfl,lk hm hr,bK (by unfold I64 at *;omega),Int.add_zero,ma hm hr]
    rfl
  ·have:i=n:=by omega
   subst this
   rw[af (eP hi),Int.toNat_natCast,Nat.sub_self];rfl
 ·exact⟨rfl,rfl,rfl,rfl,by simp,by simp,.inl rfl⟩
 ·simp[F];omega
 ·rfl
theorem jK {m:List Page}(hm:MemR m){a perm:Int}:∀(j k0:Nat),b7 m a perm j k0=0→∀k,k0≤k→k<k0+j→¬fnd m (a+(k:Nat))<0
 |0,k0,_,k,h1,h2=>by omega
 |j+1,k0,h,k,h1,h2=>by
  rw[b7]at h
  split at h
  ·cases h
  ·rename_i hf
   split at h
   ·cases h
   ·by_cases hk:k=k0
    ·subst hk;exact hf
    ·exact jK hm j (k0+1) (by exact_mod_cast h) k (by omega) (by omega)
def gT (m:List Page)(a:Int):Int:=fL (aD m (fnd m a) (au .page)).data (a%256)
theorem ud (m:List Page)(hm:MemR m)(a:Int)(n:Nat)(hn8:n≤8192)(ha:I64 a)(hok:∀k,k<n→¬fnd m (a+(k:Nat))<0):bT (((m,()),a,(n:Int),()),())=some (fg ((List.range n).map fun k=>gT m (a+(k:Nat))),()):=by
 unfold bT
 simp only[ar]
 refine(cy (fun x=>x.2.1.1=m∧x.1.1=a∧x.1.2.1=(n:Int)∧0≤x.1.2.2.1∧x.1.2.2.1≤(n:Int)∧x.2.2.1=(List.range x.1.2.2.1.toNat).map fun k=>gT m (a+(k:Nat))) (fun x=>n-x.1.2.2.1.toNat) (fun _=>some (fg ((List.range n).map fun k=>gT m (a+(k:Nat))),())) ?_ F _ ?_ ?_)
 ·rintro⟨⟨b,l,i,_⟩,⟨xs,_⟩,out,_⟩ rec ⟨h2,h3,h4,h0,h1,h5⟩ hrec
  dsimp only at h0 h1 h2 h3 h4 h5 hrec⊢
  subst h2 h3 h4
  by_cases hi:i<(n:Int)
  ·obtain⟨k,rfl⟩:=Int.eq_ofNat_of_zero_le h0
   rw[Int.toNat_natCast]at h5
   have hk:=hok k (by omega)
   rcases gY hm (b+k)with h7|⟨j,hj,h7,h8,h9,h10,h11,h12,h13⟩
   ·rw[h7]at hk;exact absurd (by decide) hk
   ·have hb:I64 (b+k):=by unfold I64;omega
    rw[aa (eR hi),bK hb,fo xs hm _ hb,ag]
    dsimp only
    rw[aa (jQ hm hk),h7,ch hj,c6 (by unfold I64;omega),aa (cG (by omega) (by omega)),h12]
    have hbyte:fL xs[j].data ((b+(k:Int))%256)=gT xs (b+k):=by rw[gT,h7,ch hj]
    rw[hbyte,aa (by rw[h5];simp[dR,lim];omega),bK (by unfold I64;omega)]
    refine hrec _ ⟨rfl,rfl,rfl,by dsimp only;omega,by dsimp only;omega,?_⟩ (by dsimp only;omega)
    dsimp only
    rw[show((k:Int)+1).toNat=k+1 by omega,List.range_succ,List.map_append,h5]
    rfl
  ·have:i=n:=by omega
   subst this
   rw[af (eP hi),h5,Int.toNat_natCast]
 ·exact⟨rfl,rfl,rfl,by simp,by simp,rfl⟩
 ·simp[F];omega
theorem pv (m:List Page)(hm:MemR m)(a:Int)(n:Nat)(hn8:n≤8192)(ha:I64 a)(hok:∀k,k<n→¬fnd m (a+(k:Nat))<0):aI (((m,()),a,(n:Int),()),())=some (fg ((List.range n).map fun k=>gT m (a+(k:Nat))),()):=by
 unfold aI
 simp only[ar]
 rw[aa (gZ (by omega) (Int.le_refl _)),aa (rz (by omega))]
 refine(cy (fun x=>x.2.1.1=m∧x.1.1=a∧x.1.2.1=(n:Int)∧0≤x.1.2.2.1∧x.1.2.2.1≤(n:Int)∧x.2.2.1=((List.range x.1.2.2.1.toNat).map fun k=>gT m (a+(k:Nat)))++List.replicate (n-x.1.2.2.1.toNat) 0) (fun x=>n-x.1.2.2.1.toNat) (fun _=>some (fg ((List.range n).map fun k=>gT m (a+(k:Nat))),())) ?_ F _ ?_ ?_)
 ·rintro⟨⟨b,l,i,_⟩,⟨xs,_⟩,out,_⟩ rec ⟨h2,h3,h4,h0,h1,h5⟩ hrec
  dsimp only at h0 h1 h2 h3 h4 h5 hrec⊢
  subst h2 h3 h4
  by_cases hi:i<(n:Int)
  ·obtain⟨k,rfl⟩:=Int.eq_ofNat_of_zero_le h0
   rw[Int.toNat_natCast]at h5
   have hk:=hok k (by omega)
   rcases gY hm (b+k)with h7|⟨j,hj,h7,h8,h9,h10,h11,h12,h13⟩
   ·rw[h7]at hk;exact absurd (by decide) hk
   ·have hb:I64 (b+k):=by unfold I64;omega
    have hol:out.length=n:=by rw[h5];simp;omega
    rw[aa (eR hi),bK hb,cT xs hm,ag]
    dsimp only
    rw[aa (jQ hm hk),show gN (b+(k:Int)) 256=(b+k)%256 from Int.tmod_eq_emod_of_nonneg h10,h7,ch hj,aa (cG (by omega) (by omega))]
    have hbyte:fL xs[j].data ((b+(k:Int))%256)=gT xs (b+k):=by rw[gT,h7,ch hj]
    rw[hbyte,aa (cG h0 (by omega)),bK (by unfold I64;omega)]
    refine hrec _ ⟨rfl,rfl,rfl,by dsimp only;omega,by dsimp only;omega,?_⟩ (by dsimp only;omega)
    dsimp only
    rw[show((k:Int)+1).toNat=k+1 by omega,List.range_succ,List.map_append,h5]
    unfold ea
    rw[Int.toNat_natCast,List.set_append_right _ _ (by simp),List.length_map,List.length_range,Nat.sub_self,show n-k=(n-(k+1))+1 by omega,List.replicate_succ]
    simp
  ·have:i=n:=by omega
   subst this
   rw[af (eP hi),h5,Int.toNat_natCast,Nat.sub_self]
   simp
 ·refine⟨rfl,rfl,by simp[oe],by simp,by simp,?_⟩
  simp[oe,au]
 ·simp[F];omega
def qU (n:Int):Bool:=eqI n 1||(eqI n 2||(eqI n 4||eqI n 8))
theorem kS (xs:List Int):(fg xs).length=xs.length:=by simp[fg]
def fC (m:List Page)(a:Int)(n:Nat):Int×Int:=
 if b7 m a 1 n 0=0 then(IntKind.wrap .i64 (leN (fg ((List.range n).map fun k=>gT m (a+(k:Nat))))),0)else(0,b7 m a 1 n 0)
theorem rP {m:List Page}(hm:MemR m){a:Int}{n:Nat}(h:b7 m a 1 n 0=0):∀k,k<n→¬fnd m (a+(k:Nat))<0:=fun k hk=>
 jK hm n 0 h k (Nat.zero_le _) (by omega)
theorem n7 (m:List Page)(hm:MemR m)(a:Int)(n:Nat)(hn:1≤n)(hn8:n≤8)(ha:I64 a):cf (((m,()),a,(n:Int),()),())=some (((fC m a n).1,(fC m a n).2,()),()):=by
 unfold cf fC
 dsimp only
 rw[mK m hm a 1 n hn (by omega) ha,ag]
 by_cases h:b7 m a 1 n 0=0
 ·rw[af (by rw[h];rfl),ud m hm a n (by omega) ha (rP hm h),ag,if_pos h]
  dsimp only
  have hl:(fg ((List.range n).map fun k=>gT m (a+(k:Nat)))).length=n:=by rw[kS];simp
  have:=qu (fg ((List.range n).map fun k=>gT m (a+(k:Nat)))) (by omega)
  rw[hl]at this
  rw[this,ag]
 ·rw[aa (by rw[eU h];rfl),if_neg h]
theorem ng (m:List Page)(hm:MemR m)(a:Int)(n:Nat)(hn:1≤n)(hn8:n≤8)(ha:I64 a):aY (((m,()),a,(n:Int),()),())=some (((fC m a n).1,(fC m a n).2,()),()):=by
 unfold aY fC
 dsimp only
 rw[md m hm a 1 n (by omega) ha (by decide) hn,ag]
 by_cases h:b7 m a 1 n 0=0
 ·rw[af (by rw[h];rfl),pv m hm a n (by omega) ha (rP hm h),ag,if_pos h]
  dsimp only
  rw[take_eq _ (by rw[kS];simpa using hn8),ag]
 ·rw[aa (by rw[eU h];rfl),if_neg h]
theorem rf {x:Page}(h:oC .page x):I64 x.base∧I64 x.perm∧x.data.length≤maxLen:=by
 obtain⟨⟨n,e1,w1⟩,⟨k,e2,w2⟩,⟨s,e3,w3⟩,_⟩:=h
 cases e1;cases e2;cases e3
 exact⟨wf64 w1,wf64 w2,w3⟩
theorem bO (n a b:Int):ae ((n,a,b,()),())=some (decide (a≤n∧n≤b),()):=by
 unfold ae
 simp only[jE,ag,leI,Bool.decide_and]
theorem dS:am=ae:=rfl
def regL1:List (List UInt8):=[[97,108],[99,108],[100,108],[98,108],[115,112,108],[98,112,108],[115,105,108],[100,105,108],[114,56,98],[114,57,98],[114,49,48,98],[114,49,49,98],[114,49,50,98],[114,49,51,98],[114,49,52,98],[114,49,53,98],[97,104],[99,104],[100,104],[98,104]]
def regL2:List (List UInt8):=[[97,120],[99,120],[100,120],[98,120],[115,112],[98,112],[115,105],[100,105],[114,56,119],[114,57,119],[114,49,48,119],[114,49,49,119],[114,49,50,119],[114,49,51,119],[114,49,52,119],[114,49,53,119]]
def regL4:List (List UInt8):=[[101,97,120],[101,99,120],[101,100,120],[101,98,120],[101,115,112],[101,98,112],[101,115,105],[101,100,105],[114,56,100],[114,57,100],[114,49,48,100],[114,49,49,100],[114,49,50,100],[114,49,51,100],[114,49,52,100],[114,49,53,100]]
def regL8:List (List UInt8):=[[114,97,120],[114,99,120],[114,100,120],[114,98,120],[114,115,112],[114,98,112],[114,115,105],[114,100,105],[114,56],[114,57],[114,49,48],[114,49,49],[114,49,50],[114,49,51],[114,49,52],[114,49,53]]
def regL (s:Int):List (List UInt8):=if s=1 then regL1 else if s=2 then regL2 else if s=4 then regL4 else regL8
def kN (s:Int):Prop:=s=1∨s=2∨s=4∨s=8
instance (s:Int):Decidable (kN s):=by unfold kN;infer_instance
def regP (r s:Int):Prop:=0≤r∧r<(regL s).length
instance (r s:Int):Decidable (regP r s):=by unfold regP;infer_instance
def ug (r s:Int):List UInt8:=if regP r s then(regL s).getD r.toNat []else []
theorem pD {d:Int}(h:I64 d):dz ((d,4,()),())=some (decide (-2147483648≤d∧d≤2147483647),()):=by
 unfold I64 at h
 unfold dz bv
 have e:cj .i64 64 (fE .i64 8 4)=32:=by decide
 simp only[e]
 rw[aa (by decide),aa (by decide),ag]
 congr 2
 unfold eqI rF gR
 rw[show min (32:Int).toNat (IntKind.bits .i64)=32 from by decide,IntKind.wrap_i64,Int.fdiv_eq_ediv_of_nonneg _ (by decide)]
 rw[Bool.eq_iff_iff]
 simp only[decide_eq_true_eq]
 omega
def memP (k r b i s d m:Int):Prop:=k=2∧r=0∧m=0∧ -1≤b∧b≤16∧ -1≤i∧i≤15∧i≠4∧(s=1∨i≠ -1∧(s=2∨s=4∨s=8))∧(b≠16∨i= -1)∧ -2147483648≤d∧d≤2147483647
instance (k r b i s d m:Int):Decidable (memP k r b i s d m):=by unfold memP;infer_instance
def opOK (k r b i s d m z:Int):Prop:=kN z∧
 (k=1∧b=0∧i=0∧s=0∧d=0∧m=0∧regP r z∨memP k r b i s d m∨k=3∧r=0∧b=0∧i=0∧s=0∧d=0∨k=0∧r=0∧b=0∧i=0∧s=0∧d=0∧m=0)
instance (k r b i s d m z:Int):Decidable (opOK k r b i s d m z):=by unfold opOK;infer_instance
def ripS:List UInt8:=[114,105,112]
def p1 (b:Int):List (List UInt8):=if b=16 then [ripS]else if 0≤b then [ug b 8]else []
def p2 (i s:Int):List (List UInt8):=if 0≤i then [ug i 8++[42]++Go.Lib.itoa s]else []
def p3 (d:Int)(q:List (List UInt8)):List (List UInt8):=if d≠0∨q=[]then [Go.Lib.itoa d]else []
def sx (m:Nat)(v:Int):Int:=if(v%2^64/2^m)%2=1 then v%2^(m+1)-2^(m+1)else v%2^(m+1)
theorem fJ {n:Int}(h0:0≤n)(h1:n<2^64):IntKind.wrap .u64 n=n:=by
 simp only[IntKind.wrap,IntKind.bits,IntKind.signed,Bool.false_and,Bool.false_eq_true,if_false]
 exact Int.emod_eq_of_lt h0 h1
theorem t7 (n:Int):IntKind.wrap .u64 n=n%2^64:=by
 simp[IntKind.wrap,IntKind.bits,IntKind.signed]
theorem nA (v i:Int)(h0:0≤i)(h1:i≤63):bS ((v,i,()),())=some (v%2^64/2^i.toNat%2,()):=by
 unfold bS
 dsimp only
 have hw:aF IntKind.u64 i=i:=fJ h0 (by omega)
 rw[hw,aa (oL h0)]
 have hi:min i.toNat 64=i.toNat:=by omega
 have e:gN (rF IntKind.u64 (aF IntKind.u64 v) i) 2=v%2^64/2^i.toNat%2:=by
  unfold gN rF aF
  rw[t7]
  show Int.tmod (Int.fdiv (v%2^64) (2^(min i.toNat 64))) 2=_
  rw[hi]
  have hp:(0:Int)<2^i.toNat:=Int.pow_pos (by decide)
  rw[Int.fdiv_eq_ediv_of_nonneg _ (Int.le_of_lt hp),Int.tmod_eq_emod_of_nonneg (Int.ediv_nonneg (Int.emod_nonneg _ (by decide)) (Int.le_of_lt hp))]
 rw[e]
 rcases Int.emod_two_eq (v%2^64/2^i.toNat)with h|h
 ·rw[h,af (eU (by decide))]
 ·rw[h,aa (fe rfl)]
def dy (m u:Nat):Nat:=2^(m+1)*((u/2^m%2)*(2^(63-m)-1))+u%2^(m+1)
theorem qN (m u i:Nat)(hm:m≤63)(hi:i≤63):dy m u/2^i%2=u/2^(min i m)%2:=by
 have hb:∀a j:Nat,a/2^j%2=(a.testBit j).toNat:=fun a j=>by rw[Nat.testBit_eq_decide_div_mod_eq];rcases Nat.mod_two_eq_zero_or_one (a/2^j)with h|h<;>simp[h]
 rw[hb,hb]
 congr 1
 unfold dy
 rw[Nat.testBit_two_pow_mul_add _ (Nat.mod_lt _ (Nat.two_pow_pos _))]
 split
 ·rename_i h
  rw[Nat.testBit_mod_two_pow,show min i m=i by omega]
  simp[h]
 ·rename_i h
  rw[show min i m=m by omega,hb]
  cases hs:u.testBit m with
  |false=>simp
  |true=>
   simp only[Bool.toNat_true,Nat.one_mul]
   rw[Nat.testBit_two_pow_sub_one]
   simp;omega
theorem kP (m u:Nat)(hm:m≤63):dy m u<2^64:=by
 unfold dy
 have h1:u%2^(m+1)<2^(m+1):=Nat.mod_lt _ (Nat.two_pow_pos _)
 have h2:(u/2^m%2)*(2^(63-m)-1)≤2^(63-m)-1:=by
  have:u/2^m%2≤1:=by omega
  calc _≤1*(2^(63-m)-1):=Nat.mul_le_mul_right _ this
   _=_:=Nat.one_mul _
 have h3:2^(m+1)*2^(63-m)=(2:Nat)^64:=by rw[←Nat.pow_add];congr 1;omega
 have h4:2^(m+1)*((u/2^m%2)*(2^(63-m)-1))≤2^(m+1)*(2^(63-m)-1):=Nat.mul_le_mul_left _ h2
 have h6:2^(m+1)*(2^(63-m)-1)=2^64-2^(m+1):=by rw[Nat.mul_sub,Nat.mul_one,h3]
 rw[h6]at h4
 have h5:(2:Nat)^(m+1)≤2^64:=Nat.pow_le_pow_right (by decide) (by omega)
 omega
def uns (v:Int):Nat:=(v%2^64).toNat
theorem bu (v:Int):((uns v:Nat):Int)=v%2^64:=by unfold uns;have:=Int.emod_nonneg v (show(2:Int)^64≠0 by decide);omega
theorem sm (m:Nat)(v:Int)(hm:m≤63):IntKind.wrap .i64 (dy m (uns v):Nat)=sx m v:=by
 have hlt:=kP m (uns v) hm
 have hu:=bu v
 have hp:((2^m:Nat):Int)=2^m:=by simp
 have hp1:((2^(m+1):Nat):Int)=2^(m+1):=by simp
 have hs:v%2^64/2^m%2=((uns v/2^m%2:Nat):Int):=by rw[←hu];simp
 have hr:v%2^(m+1)=((uns v%2^(m+1):Nat):Int):=by
  have h1:v%2^(m+1)=v%2^64%2^(m+1):=by
   rw[Int.emod_emod_of_dvd]
   exact⟨2^(63-m),by rw[←Int.pow_add];congr 1;omega⟩
  rw[h1,←hu];simp
 have hmod:uns v%2^(m+1)<2^(m+1):=Nat.mod_lt _ (Nat.two_pow_pos _)
 have h64:2^(m+1)*2^(63-m)=(2:Nat)^64:=by rw[←Nat.pow_add];congr 1;omega
 unfold sx
 rw[hs,hr]
 have hle:(2:Nat)^(m+1)≤2^64:=Nat.pow_le_pow_right (by decide) (by omega)
 have hdbl:(2:Nat)^(m+1)=2^m*2:=Nat.pow_succ 2 m
 have hle2:(2:Nat)^m≤2^63:=Nat.pow_le_pow_right (by decide) hm
 have hhi:uns v%2^(m+1)/2^m=uns v/2^m%2:=by rw[hdbl,Nat.mod_mul_right_div_self]
 rcases Nat.mod_two_eq_zero_or_one (uns v/2^m)with h|h
 ·rw[h,if_neg (by decide)]
  have e:dy m (uns v)=uns v%2^(m+1):=by unfold dy;rw[h];simp
  rw[e]
  have:uns v%2^(m+1)<2^m:=by
   rw[h]at hhi
   exact(Nat.div_eq_zero_iff.1 hhi).resolve_left (by have:=Nat.two_pow_pos m;omega)
  exact bP (by unfold I64;omega)
 ·rw[h,if_pos (by rfl)]
  have e:dy m (uns v)+2^(m+1)=2^64+uns v%2^(m+1):=by
   unfold dy
   rw[h,Nat.one_mul,Nat.mul_sub,Nat.mul_one,h64]
   omega
  have h2:2^m≤uns v%2^(m+1):=by
   rw[h]at hhi
   have:=Nat.div_mul_le_self (uns v%2^(m+1)) (2^m)
   rw[hhi]at this;omega
  have:((dy m (uns v):Nat):Int)=((uns v%2^(m+1):Nat):Int)-2^(m+1)+2^64:=by rw[←hp1];omega
  rw[this]
  have hw:∀n:Int,IntKind.wrap .i64 (n+2^64)=IntKind.wrap .i64 n:=fun n=>by
   have h3:(n+2^64)%2^IntKind.i64.bits=n%2^IntKind.i64.bits:=Int.add_emod_right ..
   simp only[IntKind.wrap,h3]
  rw[hw]
  rw[←hp1]
  exact bP (by unfold I64;omega)
theorem iH (v n:Int)(h0:1≤n)(h1:n≤8):aM ((v,n,()),())=some (sx (8*n-1).toNat v,()):=by
 unfold aM
 obtain⟨k,hk⟩:∃k:Nat,n=k:=⟨n.toNat,by omega⟩
 subst hk
 generalize hm:(8*(k:Int)-1).toNat=m
 have hm63:m≤63:=by omega
 refine(cy (fun x=>x.1.1=v∧x.1.2.1=(k:Int)∧ -1≤x.1.2.2.2.1∧x.1.2.2.2.1≤63∧x.1.2.2.1=((dy m (uns v)/2^(x.1.2.2.2.1+1).toNat:Nat):Int)) (fun x=>(x.1.2.2.2.1+1).toNat)
  (fun _=>some (sx m v,())) ?_ F _ ⟨rfl,rfl,by show(-1:Int)≤63;decide,by show(63:Int)≤63;decide,?_⟩ (by show((63:Int)+1).toNat<F;decide)).trans rfl
 ·rintro⟨⟨v',k',acc,i,_⟩,_⟩ rec ⟨rfl,hk',h2,h3,hacc⟩ hrec
  dsimp only at hk' h2 h3 hacc hrec⊢
  subst hk'
  by_cases hi:0≤i
  ·obtain⟨j,rfl⟩:=Int.eq_ofNat_of_zero_le hi
   rw[aa (oL hi)]
   have e1:cj .i64 (fE .i64 8 (k:Int)) 1=(m:Int):=by
    rw[pL (by unfold I64;omega),c6 (by unfold I64;omega)];omega
   rw[e1]
   have e2:fA (j:Int) (m:Int)=((min j m:Nat):Int):=by unfold fA;split<;>omega
   rw[e2,nA _ _ (by omega) (by omega),ag]
   dsimp only
   have e3:v'%2^64/2^(((min j m:Nat):Int)).toNat%2=((dy m (uns v')/2^j%2:Nat):Int):=by
    rw[qN m _ j hm63 (by omega),←bu];simp
   rw[e3]
   have hlt:=kP m (uns v') hm63
   have e4:dy m (uns v')/2^(((j:Int)+1).toNat)=dy m (uns v')/2^j/2:=by
    rw[show((j:Int)+1).toNat=j+1 by omega,Nat.pow_succ,Nat.div_div_eq_div_mul]
   rw[e4]at hacc
   generalize hq:dy m (uns v')/2^j=q at hacc⊢
   have hq2:q<2^64:=by rw[←hq];exact Nat.lt_of_le_of_lt (Nat.div_le_self _ _) hlt
   have e5:aJ .u64 (fE .u64 2 acc) (aF .u64 ((q%2:Nat):Int))=(q:Int):=by
    unfold aJ fE aF
    rw[hacc,fJ (n:=2*((q/2:Nat):Int)) (by omega) (by omega),fJ (n:=((q%2:Nat):Int)) (by omega) (by omega),fJ (by omega) (by omega)]
    omega
   rw[e5,c6 (by unfold I64;omega)]
   refine hrec _ ⟨rfl,rfl,by dsimp only;omega,by dsimp only;omega,?_⟩ (by dsimp only;omega)
   dsimp only
   rw[show((j:Int)-1+1).toNat=j by omega,hq]
  ·rw[af (qw hi)]
   have:i= -1:=by omega
   subst this
   rw[hacc]
   have:dy m (uns v')/2^((-1:Int)+1).toNat=dy m (uns v'):=by simp
   rw[this]
   show some (IntKind.wrap .i64 _,())=_
   rw[sm m v' hm63]
 ·have hlt:=kP m (uns v) hm63
  show(0:Int)=((dy m (uns v)/2^((63:Int)+1).toNat:Nat):Int)
  rw[show((63:Int)+1).toNat=64 from rfl,Nat.div_eq_of_lt hlt];rfl
theorem oX (v n:Int)(h0:1≤n)(h1:n≤8):bv ((v,n,()),())=some (sx (8*n-1).toNat v,()):=by
 unfold bv
 dsimp only
 have e:cj .i64 64 (fE .i64 8 n)=64-8*n:=by rw[pL (by unfold I64;omega),c6 (by unfold I64;omega)]
 rw[e,aa (oL (by omega)),aa (oL (by omega))]
 congr 2
 obtain⟨m,hm⟩:∃m:Nat,8*n-1=m:=⟨(8*n-1).toNat,by omega⟩
 have hn:64-8*n=((63-m:Nat):Int):=by omega
 rw[hm,hn]
 have hm63:m≤63:=by omega
 simp only[Int.toNat_natCast]
 unfold rF gR
 rw[show min (((63-m:Nat):Int)).toNat IntKind.i64.bits=63-m by simp[IntKind.bits];omega]
 have hp:(0:Int)<2^(63-m):=Int.pow_pos (by decide)
 rw[Int.fdiv_eq_ediv_of_nonneg _ (Int.le_of_lt hp)]
 have h64:(2:Int)^(m+1)*2^(63-m)=2^64:=by rw[←Int.pow_add];congr 1;omega
 have h63:(2:Int)^m*2^(63-m)=2^63:=by rw[←Int.pow_add];congr 1;omega
 have hr:=Int.emod_nonneg v (show(2:Int)^(m+1)≠0 from Int.ne_of_gt (Int.pow_pos (by decide)))
 have hr2:=Int.emod_lt_of_pos v (show(0:Int)<2^(m+1)from Int.pow_pos (by decide))
 have hsv:v%2^64/2^m%2=v%2^(m+1)/2^m:=by
  have h1:v%2^(m+1)=v%2^64%2^(m+1):=by
   rw[Int.emod_emod_of_dvd]
   exact⟨2^(63-m),h64.symm⟩
  rw[h1,Int.pow_succ 2 m]
  have hu:=bu v
  rw[←hu]
  have:((2:Int)^m)=((2^m:Nat):Int):=by simp
  rw[this]
  have h2:((2^m:Nat):Int)*2=((2^m*2:Nat):Int):=by simp
  rw[h2]
  rw[←Int.natCast_ediv,←Int.natCast_emod,←Int.natCast_ediv,Nat.mod_mul_right_div_self]
  simp
 have hdm:v=v%2^(m+1)+2^(m+1)*(v/2^(m+1)):=(Int.emod_add_mul_ediv ..).symm
 have hmul:v*2^(63-m)%2^64=v%2^(m+1)*2^(63-m):=by
  rw[←h64,Int.mul_comm v,Int.mul_comm (2^(m+1)),Int.mul_emod_mul_of_pos _ _ hp,Int.mul_comm]
 unfold sx
 rw[hsv]
 generalize v%2^(m+1)=r at*
 have hpm:(0:Int)<2^m:=Int.pow_pos (by decide)
 have hdbl:(2:Int)^(m+1)=2^m*2:=Int.pow_succ 2 m
 simp only[IntKind.wrap,IntKind.bits,IntKind.signed,Bool.true_and,decide_eq_true_eq,ge_iff_le]
 rw[show((64:Nat)-1)=63 from rfl,hmul]
 by_cases hs:(2:Int)^m≤r
 ·have hq:r/2^m=1:=by
   rw[Int.ediv_eq_iff_of_pos hpm]
   omega
  rw[hq,if_pos rfl]
  have hge:(2:Int)^63≤r*2^(63-m):=by rw[←h63];exact Int.mul_le_mul_of_nonneg_right hs (Int.le_of_lt hp)
  rw[if_pos hge,←h64,←Int.sub_mul,Int.mul_ediv_cancel _ (Int.ne_of_gt hp)]
 ·have hq:r/2^m=0:=Int.ediv_eq_zero_of_lt hr (by omega)
  rw[hq]
  have hge:¬(2:Int)^63≤r*2^(63-m):=by
   rw[←h63,Int.not_le]
   exact Int.mul_lt_mul_of_pos_right (by omega) hp
  rw[if_neg hge,if_neg (by decide),Int.mul_ediv_cancel _ (Int.ne_of_gt hp)]
def fitsB (v n:Int):Bool:=eqI (sx (8*n-1).toNat v) v
theorem t8 {n:Nat}(h:n<9223372036854775808):IntKind.i64.wrap (n:Int)=n:=bP ⟨by omega,by omega⟩
theorem mR (X M:BitVec 64):X&&& ~~~M=0#64↔X&&& M=X:=by
 constructor
 ·intro h
  apply BitVec.eq_of_getLsbD_eq
  intro i hi
  have:=congrArg (fun z:BitVec 64=>z.getLsbD i) h
  simp only[BitVec.getLsbD_and,BitVec.getLsbD_not,hi,decide_true,Bool.true_and,BitVec.getLsbD_zero]at this
  rw[BitVec.getLsbD_and]
  cases h1:X.getLsbD i<;>cases h2:M.getLsbD i<;>simp_all
 ·intro h
  apply BitVec.eq_of_getLsbD_eq
  intro i hi
  have:=congrArg (fun z:BitVec 64=>z.getLsbD i) h
  simp only[BitVec.getLsbD_and]at this
  simp only[BitVec.getLsbD_and,BitVec.getLsbD_not,hi,decide_true,Bool.true_and,BitVec.getLsbD_zero]
  cases h1:X.getLsbD i<;>cases h2:M.getLsbD i<;>simp_all
def jP (x:Int):Bool:=eqI (gH .i64 x 2245) 0
theorem iandn64 (x:Int):gH .i64 x 2245=IntKind.i64.wrap ((BitVec.ofInt 64 x&&& ~~~2245#64).toNat:Int):=rfl
theorem iand64 (x:Int):jq .i64 x 2245=IntKind.i64.wrap ((BitVec.ofInt 64 x&&& 2245#64).toNat:Int):=rfl
theorem ta {x:Int}(h:I64 x):(decide (0≤x)&&eqI (jq .i64 x 2245) x)=jP x:=by
 unfold I64 at h
 unfold jP eqI
 rw[iandn64,iand64]
 generalize hX:BitVec.ofInt 64 x=X
 have hXi:X.toInt=x:=by rw[←hX,BitVec.toInt_ofInt];rw[Int.bmod_def];split<;>omega
 have hle:(X&&& 2245#64).toNat≤2245:=by rw[BitVec.toNat_and];exact Nat.and_le_right
 have hw1:IntKind.i64.wrap ((X&&& 2245#64).toNat:Int)=(X&&& 2245#64).toNat:=t8 (by omega)
 have hz:IntKind.i64.wrap ((X&&& ~~~2245#64).toNat:Int)=0↔X&&& ~~~2245#64=0#64:=by
  have hlt:(X&&& ~~~2245#64).toNat<2^64:=BitVec.isLt _
  rw[IntKind.wrap_i64]
  constructor
  ·intro e
   apply BitVec.eq_of_toNat_eq
   rw[BitVec.toNat_zero]
   omega
  ·intro e;rw[e,BitVec.toNat_zero];decide
 rw[Bool.eq_iff_iff]
 simp only[Bool.and_eq_true,decide_eq_true_eq]
 rw[hw1,hz,mR]
 have hXn:(X.toNat:Int)=x∨(X.toNat:Int)=x+18446744073709551616:=by
  rw[BitVec.toInt_eq_toNat_cond]at hXi
  split at hXi<;>omega
 constructor
 ·rintro⟨h0,e⟩
  apply BitVec.eq_of_toNat_eq
  have:=X.isLt
  omega
 ·intro e
  rw[e]at hle⊢
  omega
theorem sL {c:List Int}{p f:Int}:dG (((c,p,f,()),()),())=some (jP f,()):=by
 unfold dG da
 rfl
theorem sj {c:List Int}{p f:Int}(h:I64 f):dL (((c,p,f,()),()),())=some (jP f,()):=by
 unfold dL dj
 dsimp only
 rw[jE,ag]
 have:=ta h
 unfold leI
 rw[this]
 rfl
theorem ss (x:Page)(left:Int)(h0:0≤left)(h1:left≤1048576)(hd:x.data.length≤maxLen):df ((x,left,()),())=some (if left-x.data.length<0 then -1 else left-x.data.length,()):=by
 unfold df
 simp only[ar]
 rw[c6 (by unfold I64 maxLen at *;omega)]
 by_cases h:left-(x.data.length:Int)<0
 ·rw[aa (eR h),if_pos h]
 ·rw[af (eP h),if_neg h]
theorem qO (xs:List Page)(hx:xs.length≤maxLen)(hd:∀x∈xs,x.data.length≤maxLen):∃r:Int,cK ((xs,1048576,()),())=some (r,())∧(0≤r→xs.length≤1048576):=by
 unfold cK
 simp only[ar]
 rw[c6 (by unfold I64 maxLen at *;omega)]
 by_cases h:1048576-(xs.length:Int)<0
 ·rw[aa (eR h)]
  exact⟨-1,rfl,fun h=>absurd h (by decide)⟩
 ·rw[af (eP h)]
  refine gj (fun x=>x.1.1=xs∧0≤x.1.2.1∧x.1.2.1≤1048576∧0≤x.1.2.2.1∧x.1.2.2.1≤(xs.length:Int)) (fun x=>xs.length-x.1.2.2.1.toNat) (fun _ o=>∃r:Int,o=some (r,())∧(0≤r→xs.length≤1048576)) ?_ F _ ?_ ?_
  ·rintro⟨⟨ys,left,i,_⟩,_⟩ rec ⟨h2,h3,h4,h0,h1⟩ hrec
   dsimp only at h0 h1 h2 h3 h4 hrec⊢
   subst h2
   by_cases hi:i<ys.length
   ·obtain⟨n,rfl⟩:=Int.eq_ofNat_of_zero_le h0
    have hn:n<ys.length:=by omega
    rw[aa (eR hi),aa (cG h0 hi),ch hn,ss _ _ h3 h4 (hd _ (List.getElem_mem hn)),ag]
    dsimp only
    by_cases hl:left-(ys[n].data.length:Int)<0
    ·rw[if_pos hl]
     exact⟨-1,rfl,fun h=>absurd h (by decide)⟩
    ·rw[if_neg hl,af (eP hl),bK (by unfold I64;omega)]
     exact hrec _ ⟨rfl,by dsimp only;omega,by dsimp only;omega,by dsimp only;omega,by dsimp only;omega⟩ (by dsimp only;omega)
   ·rw[af (eP hi)]
    exact⟨left,rfl,fun _=>by omega⟩
  ·exact⟨rfl,by dsimp only;omega,by dsimp only;omega,by simp,by simp⟩
  ·simp[F];omega
theorem pd (xs:List Page)(hx:xs.length≤maxLen)(hd:∀x∈xs,x.data.length≤maxLen):∃r:Int,cn (((xs,()),1048576,()),())=some (r,())∧(0≤r→xs.length≤1048576):=by
 obtain⟨r,h1,h2⟩:=qO xs hx hd
 unfold cn
 dsimp only
 rw[h1,ag]
 by_cases h:r<0
 ·rw[aa (eR h)];exact⟨-1,rfl,fun h=>absurd h (by decide)⟩
 ·rw[af (eP h)];exact⟨r,rfl,h2⟩
theorem qP (xs:List Page)(hx:xs.length≤1048576):cL ((xs,()),())=some ((),xs,()):=by
 unfold cL ej
 simp only[ar]
 rw[aa (gZ (by omega) (Int.le_refl _)),aa (rz (by omega))]
 refine cy (fun x=>x.1.1=xs∧0≤x.1.2.1∧x.1.2.1≤(xs.length:Int)∧x.2.1=xs.take x.1.2.1.toNat++List.replicate (xs.length-x.1.2.1.toNat) (au .page)) (fun x=>xs.length-x.1.2.1.toNat) (fun _=>some ((),xs,())) ?_ F _ ?_ ?_
 ·rintro⟨⟨ys,i,_⟩,out,_⟩ rec ⟨h2,h0,h1,h3⟩ hrec
  dsimp only at h0 h1 h2 h3 hrec⊢
  subst h2
  by_cases hi:i<ys.length
  ·obtain⟨n,rfl⟩:=Int.eq_ofNat_of_zero_le h0
   have hn:n<ys.length:=by omega
   rw[Int.toNat_natCast]at h3
   have hol:out.length=ys.length:=by rw[h3];simp;omega
   rw[aa (eR hi),aa (cG h0 hi),ag,aa (cG h0 (by rw[hol];exact hi)),bK (by unfold I64;omega)]
   refine hrec _ ⟨rfl,by dsimp only;omega,by dsimp only;omega,?_⟩ (by dsimp only;omega)
   dsimp only
   rw[ch hn,show((n:Int)+1).toNat=n+1 by omega,h3]
   unfold ea
   rw[Int.toNat_natCast,List.set_append_right _ _ (by simp;omega),List.length_take,Nat.min_eq_left (by omega),Nat.sub_self,show ys.length-n=(ys.length-(n+1))+1 by omega,List.replicate_succ,←List.take_append_getElem hn,List.append_assoc]
   rfl
  ·have:i=ys.length:=by omega
   subst this
   rw[af (eP hi),h3,Int.toNat_natCast];simp
 ·exact⟨rfl,by simp,by simp,by simp[oe]⟩
 ·simp[F];omega
theorem pf (xs:List Page)(hx:xs.length≤1048576):cq (((xs,()),()),())=some ((),xs,()):=by
 unfold cq
 dsimp only
 rw[qP xs hx,ag]
theorem oD (x:Page):db ((x,x,()),())=some (true,()):=by
 unfold db
 dsimp only
 rw[fe rfl,fe rfl,show eqS x.data x.data=true from decide_eq_true rfl]
 rfl
theorem m5 (xs:List Page)(hx:xs.length≤1048576):cJ ((xs,xs,()),())=some (true,()):=by
 unfold cJ
 simp only[ar]
 rw[fe rfl,bm,eQ]
 refine cy (fun x=>x.1.1=xs∧x.1.2.1=xs∧0≤x.1.2.2.1∧x.1.2.2.1≤(xs.length:Int)) (fun x=>xs.length-x.1.2.2.1.toNat) (fun _=>some (true,())) ?_ F _ ?_ ?_
 ·rintro⟨⟨ys,zs,i,_⟩,_⟩ rec ⟨h2,h3,h0,h1⟩ hrec
  dsimp only at h0 h1 h2 h3 hrec⊢
  subst h2
  subst h3
  by_cases hi:i<zs.length
  ·rw[aa (eR hi),aa (cG h0 hi),aa (cG h0 hi),oD,ag,bm,eQ,bK (by unfold I64;omega)]
   exact hrec _ ⟨rfl,rfl,by dsimp only;omega,by dsimp only;omega⟩ (by dsimp only;omega)
  ·rw[af (eP hi)]
 ·exact⟨rfl,rfl,by simp,by simp⟩
 ·simp[F];omega
theorem lZ (xs:List Page)(hx:xs.length≤1048576):cm (((xs,()),(xs,()),()),())=some (true,()):=by
 unfold cm
 dsimp only
 rw[m5 xs hx,ag,bm,eQ]
theorem n8 (a0 a1 a2 a3 a4 a5 a6 a7 a8 a9 a10 a11 a12 a13 a14 a15:Int):co ((([a0,a1,a2,a3,a4,a5,a6,a7,a8,a9,a10,a11,a12,a13,a14,a15],()),()),())=some (([a0,a1,a2,a3,a4,a5,a6,a7,a8,a9,a10,a11,a12,a13,a14,a15],()),()):=by kernel_rfl
theorem pe {c:List Int}(h:c.length=16):co (((c,()),()),())=some ((c,()),()):=by
 match c,h with
 |[a0,a1,a2,a3,a4,a5,a6,a7,a8,a9,a10,a11,a12,a13,a14,a15],_=>exact n8 a0 a1 a2 a3 a4 a5 a6 a7 a8 a9 a10 a11 a12 a13 a14 a15
theorem t1 {c:List Int}(p f:Int)(h:c.length=16):dJ (((c,p,f,()),()),())=some ((c,p,f,()),()):=by
 unfold dJ
 dsimp only
 rw[pe h,ag]
theorem lY (c:List Int):cl (((c,()),(c,()),()),())=some (true,()):=by
 unfold cl
 dsimp only
 refine(Ret.iter (fun y=>∃i:Nat,i≤16∧y=(((i:Int),()),(c,()),(c,()),())) (fun y=>16-y.1.1.toNat) ?_ F _ ⟨0,by omega,rfl⟩ (by unfold F;simp)).eq
 rintro _ rec ⟨i,hi,rfl⟩ hrec
 dsimp only
 by_cases h:i<16
 ·rw[aa (eR (by omega)),aa (by simp[inR];omega),aa (by simp[inR];omega),fe rfl,bm,af rfl,bb (by omega) (by omega)]
  exact hrec _ ⟨i+1,by omega,rfl⟩ (by simp;omega)
 ·rw[af (eP (by omega))]
  exact Ret.some rfl
theorem qp (c:List Int)(p f:Int):dH (((c,p,f,()),(c,p,f,()),()),())=some (true,()):=by
 unfold dH
 dsimp only
 rw[lY,ag]
 dsimp only
 rw[bm,eQ,fe rfl,fe rfl,bm,eQ,eQ]
theorem elWf_i {x:Int}(h:oC .i x):I64 x:=by
 obtain⟨⟨n,e,w⟩,_⟩:=h
 have e:x=n:=by injection e
 rw[e];exact wf64 w
theorem regs_wf {c:List Int}(w:∀x∈c,oC .i x):∀i,I64 (aD c i (au .i)):=fun i=>by
 unfold aD
 rw[List.getD_eq_getElem?_getD]
 cases hci:c[i.toNat]? with
 |none=>exact(by unfold I64;decide:I64 (0:Int))
 |some v=>exact elWf_i (w v (List.mem_of_getElem? hci))
def pgN (m:List Page)(i:Nat):Page:=m.getD i (au .page)
theorem pR (m:List Page)(i:Nat):pg m (i:Int)=pgN m i:=by simp[pg,pgN,aD]
theorem kw {m:List Page}{i:Nat}(h:i<m.length):pgN m i=m[i]:=by simp[pgN,h]
structure MemT (m:List Page):Prop where
 len:m.length≤32
 pg:∀i,i<m.length→0≤(pgN m i).base∧(pgN m i).base≤65280∧(pgN m i).base%256=0∧0≤(pgN m i).perm∧(pgN m i).perm≤7∧(pgN m i).data.length=256
 ord:∀i,i+1<m.length→(pgN m i).base<(pgN m (i+1)).base
theorem tq {b:Int}(h0:0≤b)(h1:b≤65280)(h2:b%256=0):eW b=true:=by
 simp only[eW,inB,Bool.and_eq_true,decide_eq_true_eq,eqI]
 refine⟨⟨h0,by omega⟩,?_⟩
 show b.tmod 256=0
 rw[Int.tmod_eq_emod_of_nonneg h0];exact h2
theorem memOK_t {m:List Page}(h:iK m=true):MemT m:=by
 have hr:=rT h
 simp only[iK,Bool.and_eq_true,decide_eq_true_eq,fq,List.all_eq_true]at h
 have hg:∀i,i<m.length→eW (pgN m i).base=true∧fM (pgN m i).perm=true∧eqI ((pgN m i).data.length:Int) 256=true∧((0<i)→(Go.Den.G.pg m ((i:Int)-1)).base<(pgN m i).base):=by
  intro i hi
  have:=h.2 i (by rw[List.mem_range'];exact⟨i,by omega,by omega⟩)
  unfold good at this
  rw[pR]at this
  simp only[Bool.and_eq_true,Bool.or_eq_true,Bool.not_eq_true',decide_eq_false_iff_not,rS]at this
  obtain⟨h1,h2,h3,h4⟩:=this
  refine⟨h1,h2,h3,fun hp=>?_⟩
  rcases h4 with h4|h4
  ·omega
  ·exact h4
 refine⟨by omega,fun i hi=>?_,fun i hi=>?_⟩
 ·obtain⟨h1,h2,h3,_⟩:=hg i hi
  obtain⟨a,b,c⟩:=ls h1
  simp only[fM,inB,Bool.and_eq_true,decide_eq_true_eq]at h2
  rw[pC]at h3
  exact⟨a,b,c,h2.1,h2.2,by omega⟩
 ·have:=(hg (i+1) hi).2.2.2 (by omega)
  rw[show((i+1:Nat):Int)-1=(i:Int)by omega,pR]at this
  exact this
theorem MemT.ok {m:List Page}(h:MemT m):iK m=true:=by
 simp only[iK,Bool.and_eq_true,decide_eq_true_eq,fq,List.all_eq_true]
 refine⟨by have:=h.len;omega,fun i hi=>?_⟩
 rw[List.mem_range']at hi
 obtain⟨k,hk,rfl⟩:=hi
 rw[Nat.one_mul,Nat.zero_add]
 have hk:k<m.length:=by omega
 obtain⟨a,b,c,d,e,f⟩:=h.pg k hk
 unfold good
 rw[pR]
 simp only[Bool.and_eq_true,Bool.or_eq_true,Bool.not_eq_true',decide_eq_false_iff_not,rS]
 refine⟨tq a b c,?_,by rw[pC];omega,?_⟩
 ·simp only[fM,inB,Bool.and_eq_true,decide_eq_true_eq];omega
 ·cases k with
  |zero=>exact .inl (by omega)
  |succ n=>right;rw[show((n+1:Nat):Int)-1=(n:Int)by omega,pR];exact h.ord n hk
theorem MemT.mono {m:List Page}(h:MemT m){i:Nat}:∀ {j:Nat},i<j→j<m.length→(pgN m i).base+256≤(pgN m j).base
 |0,hj,_=>absurd hj (Nat.not_lt_zero _)
 |j+1,hij,hj=>by
  have h1:=h.ord j hj
  have p1:=(h.pg j (by omega)).2.2.1
  have p2:=(h.pg (j+1) hj).2.2.1
  by_cases he:i=j
  ·subst he;omega
  ·have:=h.mono (i:=i) (j:=j) (by omega) (by omega)
   omega
theorem MemT.apart {m:List Page}(h:MemT m){i j:Nat}(hi:i<m.length)(hj:j<m.length)(hne:i≠j):(pgN m i).base+256≤(pgN m j).base∨(pgN m j).base+256≤(pgN m i).base:=by
 by_cases hlt:i<j
 ·exact .inl (h.mono hlt hj)
 ·exact .inr (h.mono (by omega) hi)
theorem MemT.r {m:List Page}(h:MemT m):MemR m:=rT h.ok
structure Laid (m:List Page)(a:Int)(t:List UInt8)(n:Nat)(x:List Page):Prop where
 len:x.length=m.length
 pg:∀i,i<m.length→(pgN x i).base=(pgN m i).base∧(pgN x i).perm=(pgN m i).perm∧(pgN x i).data.length=256∧
  ∀k:Nat,k<256→(pgN x i).data.getD k 0=if a≤(pgN m i).base+k∧(pgN m i).base+k<a+n then t.getD ((pgN m i).base+k-a).toNat 0 else(pgN m i).data.getD k 0
theorem Laid.start {m:List Page}(h:MemT m)(a:Int)(t:List UInt8):Laid m a t 0 m:=by
 refine⟨rfl,fun i hi=>⟨rfl,rfl,(h.pg i hi).2.2.2.2.2,fun k hk=>?_⟩⟩
 rw[if_neg (by omega)]
theorem Laid.memT {m x:List Page}{a:Int}{t:List UInt8}{n:Nat}(h:MemT m)(hx:Laid m a t n x):MemT x:=by
 refine⟨by rw[hx.len];exact h.len,fun i hi=>?_,fun i hi=>?_⟩
 ·rw[hx.len]at hi
  obtain⟨h1,h2,h3,_⟩:=hx.pg i hi
  obtain⟨a,b,c,d,e,f⟩:=h.pg i hi
  rw[h1,h2];exact⟨a,b,c,d,e,h3⟩
 ·rw[hx.len]at hi
  rw[(hx.pg i (by omega)).1,(hx.pg (i+1) hi).1]
  exact h.ord i hi
theorem tQ {x y:Page}(h1:x.base=y.base)(h2:x.perm=y.perm)(h3:x.data=y.data):x=y:=by
 cases x;cases y;simp only at h1 h2 h3;subst h1 h2 h3;rfl
theorem Laid.unique {m x y:List Page}{a:Int}{t:List UInt8}{n:Nat}(hx:Laid m a t n x)(hy:Laid m a t n y):x=y:=by
 refine List.ext_getElem (by rw[hx.len,hy.len]) fun i h1 h2=>?_
 have hi:i<m.length:=by rw[←hx.len];exact h1
 obtain⟨a1,a2,a3,a4⟩:=hx.pg i hi
 obtain⟨b1,b2,b3,b4⟩:=hy.pg i hi
 rw[kw h1]at a1 a2 a3 a4
 rw[kw h2]at b1 b2 b3 b4
 refine tQ (by rw[a1,b1]) (by rw[a2,b2]) (List.ext_getElem (by rw[a3,b3]) fun k k1 k2=>?_)
 have e1:=a4 k (by omega)
 have e2:=b4 k (by omega)
 rw[←e2]at e1
 simpa[k1,k2]using e1
theorem Laid.step {m x:List Page}{a:Int}{t:List UInt8}{j:Nat}(hm:MemT m)(hx:Laid m a t j x){i:Nat}(hi:i<m.length){o c:Nat}
  (ho:(o:Int)=a+j-(pgN m i).base) (hoc:o+c≤256) (hjc:j+c≤t.length):
  Laid m a t (j+c) (x.set i (Page.mk (pgN x i).base (pgN x i).perm ((pgN x i).data.take o++(t.drop j).take c++(pgN x i).data.drop (o+c)))):=by
 refine⟨by rw[List.length_set];exact hx.len,fun i' hi'=>?_⟩
 obtain⟨h1,h2,h3,h4⟩:=hx.pg i' hi'
 by_cases he:i'=i
 ·subst he
  have hset:∀p:Page,pgN (x.set i' p) i'=p:=fun p=>by unfold pgN;rw[List.getD_eq_getElem?_getD,List.getElem?_set_self (by rw[hx.len];exact hi'),Option.getD_some]
  rw[hset]
  have l1:((pgN x i').data.take o).length=o:=by rw[List.length_take];omega
  have l2:((t.drop j).take c).length=c:=by rw[List.length_take,List.length_drop];omega
  refine⟨h1,h2,by simp only[List.length_append,l1,l2,List.length_drop];omega,fun k hk=>?_⟩
  have h4:=h4 k hk
  dsimp only
  rw[List.getD_eq_getElem?_getD]at h4⊢
  by_cases k1:k<o
  ·rw[List.append_assoc,List.getElem?_append_left (by omega),List.getElem?_take,if_pos k1,h4]
   by_cases hc:a≤(pgN m i').base+k∧(pgN m i').base+k<a+j
   ·rw[if_pos hc,if_pos (by omega)]
   ·rw[if_neg hc,if_neg (by omega)]
  ·by_cases k2:k<o+c
   ·rw[List.append_assoc,List.getElem?_append_right (by omega),l1,List.getElem?_append_left (by omega),List.getElem?_take,if_pos (by omega),List.getElem?_drop,if_pos (by omega),List.getD_eq_getElem?_getD]
    rw[show j+(k-o)=((pgN m i').base+k-a).toNat by omega]
   ·rw[List.getElem?_append_right (by rw[List.length_append];omega),List.length_append,l1,l2,List.getElem?_drop,show o+c+(k-(o+c))=k by omega,h4,if_neg (by omega),if_neg (by omega)]
 ·rw[show pgN (x.set i _) i'=pgN x i' from by unfold pgN;rw[List.getD_eq_getElem?_getD,List.getElem?_set_ne (by omega),←List.getD_eq_getElem?_getD]]
  refine⟨h1,h2,h3,fun k hk=>?_⟩
  rw[h4 k hk]
  rcases hm.apart hi' hi he with hp|hp
  ·by_cases hc:a≤(pgN m i').base+k∧(pgN m i').base+k<a+j
   ·rw[if_pos hc,if_pos (by omega)]
   ·rw[if_neg hc,if_neg (by omega)]
  ·by_cases hc:a≤(pgN m i').base+k∧(pgN m i').base+k<a+j
   ·rw[if_pos hc,if_pos (by omega)]
   ·rw[if_neg hc,if_neg (by omega)]
theorem ll {p q:Page→Bool}:∀ {m x:List Page} {i:Nat},x.length=m.length→(∀j,j<m.length→p (pgN m j)=q (pgN x j))→ba p m i=ba q x i
 |[],[],_,_,_=>rfl
 |[],_::_,_,h,_=>by simp at h
 |_::_,[],_,h,_=>by simp at h
 |a::r,b::s,i,hl,h=>by
  have h0:=h 0 (by simp)
  simp only[pgN,List.getD_cons_zero]at h0
  simp only[ba,h0]
  rw[ll (m:=r) (x:=s) (i:=i+1) (by simpa using hl) fun j hj=>by simpa[pgN]using h (j+1) (by simp;omega)]
theorem Laid.fnd {m x:List Page}{a:Int}{t:List UInt8}{n:Nat}(hx:Laid m a t n x)(b:Int):fnd x b=fnd m b:=by
 unfold Go.Den.G.fnd
 exact(ll hx.len fun j hj=>by unfold ec;rw[(hx.pg j hj).1]).symm
theorem pE (m:List Page)(i:Nat):aD m (i:Int) (au .page)=pgN m i:=by simp[pgN,aD]
theorem uk (m:List Page)(hm:m.length≤1048576):bU (((m,()),()),())=some ((),m,()):=by
 unfold bU
 dsimp only
 rw[show dR ([]:List Page) m=true from dA (by simp;omega),cZ];rfl
theorem oz (m:List Page)(hm:m.length≤1048576):aL (((m,()),()),())=some ((),m,()):=by
 unfold aL aw
 dsimp only
 rw[show dR ([]:List Page) m=true from dA (by simp;omega),cZ]
 cases m with
 |nil=>rw[show eqI (aA ([]:List Page)) 0=true from rfl,cZ];rw[show dN ([]:List Page) []=[]from rfl];unfold eqO;rw[if_pos rfl,ag]
 |cons p r=>rw[show eqI (aA (p::r)) 0=false from eU (by simp[ar];omega),eQ,ag];rfl
theorem put_ex (m:List Page)(hm:MemT m)(a:Int)(t:List UInt8)(_ha:I64 a)(ht:t.length≤8192)(hok:∀k,k<t.length→¬fnd m (a+(k:Nat))<0):
  ∃x,di (((m,()),a,t,()),())=some ((x,()),())∧Laid m a t t.length x:=by
 unfold di
 dsimp only
 rw[uk m (by have:=hm.len;omega),ag]
 refine gj (fun s=>∃j:Nat,j≤t.length∧s.1.1=a+j∧s.1.2.1=t.drop j∧Laid m a t j s.2.2.1) (fun s=>s.1.2.1.length) (fun _ o=>∃x,o=some ((x,()),())∧Laid m a t t.length x) ?_ F _ ⟨0,by simp,by simp,by simp,Laid.start hm a t⟩ (by unfold F;dsimp only;omega)
 rintro⟨⟨b,u,_⟩,_,x,_,_⟩ rec ⟨j,hj,h1,h2,hx⟩ hrec
 dsimp only at h1 h2 hx hrec⊢
 subst h1 h2
 rw[show aA (t.drop j)=((t.length-j:Nat):Int)from by rw[ar,List.length_drop]]
 by_cases hjl:j<t.length
 ·have hmx:=hx.memT hm
  have hf:=hok j hjl
  rw[←hx.fnd]at hf
  rcases gY hmx.r (a+j)with h0|⟨i,hi,h0,hb1,hb2,r0,r1,hb3,hdl⟩
  ·rw[h0]at hf;exact absurd (by decide) hf
  ·have him:i<m.length:=by rw[←hx.len];exact hi
   obtain⟨p1,p2,p3,p4,p5,p6⟩:=hmx.pg i hi
   rw[←kw hi]at hb1 hb2 hb3 hdl
   obtain⟨o,ho⟩:=Int.eq_ofNat_of_zero_le (show 0≤a+j-(pgN x i).base by omega)
   have hs:cj .i64 (a+j) (pgN x i).base=(o:Int):=by rw[c6 (by unfold I64;omega),ho]
   obtain⟨c,hc⟩:∃c:Nat,c=min (t.length-j) (256-o):=⟨_,rfl⟩
   have hi':fA ((t.length-j:Nat):Int) (cj .i64 256 (o:Int))=(c:Int):=by
    rw[c6 (by unfold I64;omega)];unfold fA;split<;>omega
   have hfi:fnd x (a+j)=(i:Int):=h0
   rw[aa (eR (by omega)),fo x hmx.r _ (by unfold I64;omega),ag]
   dsimp only
   rw[hfi]
   simp only[pE,hs,hi',ar,p6]
   rw[bK (a:=(o:Int)) (by unfold I64;omega),bK (a:=a+j) (by unfold I64;omega)]
   rw[aa (cG (by omega) (by omega)),aa (cG (by omega) (by omega)),aa (gZ (by omega) (by omega)),aa (gZ (by omega) (by omega))]
   rw[aa (dA (by unfold dW;simp only[List.length_take];omega)),aa (gZ (by omega) (by omega))]
   rw[aa (dA (by unfold dW fd dN;simp only[List.length_take,List.length_append,List.length_drop];omega)),aa (cG (by omega) (by omega)),aa (gZ (by omega) (by omega))]
   refine hrec _ ⟨j+c,by omega,by dsimp only;omega,?_,?_⟩ ?_
   ·dsimp only;unfold fd;rw[List.drop_drop,Int.toNat_natCast]
   ·have:=Laid.step hm hx him (o:=o) (c:=c) (by rw[←(hx.pg i him).1];omega) (by omega) (by omega)
    dsimp only
    unfold ea dW fd dN
    rw[Int.toNat_natCast,Int.toNat_natCast,Int.toNat_natCast,show((o:Int)+(c:Int)).toNat=o+c by omega]
    exact this
   ·dsimp only;unfold fd;simp only[List.length_drop];omega
 ·have:j=t.length:=by omega
  subst this
  rw[af (eP (by omega))]
  exact⟨x,rfl,hx⟩
theorem lay_ex (m:List Page)(hm:MemT m)(a:Int)(t:List UInt8)(_ha:I64 a)(ht:t.length≤8192)(hok:∀k,k<t.length→¬fnd m (a+(k:Nat))<0):
  ∃x,bH (((m,()),a,t,()),())=some ((),x,())∧Laid m a t t.length x:=by
 unfold bH
 dsimp only
 rw[oz m (by have:=hm.len;omega),ag]
 refine gj (fun s=>∃j:Nat,j≤t.length∧s.1.1=a+j∧s.1.2.1=t.drop j∧Laid m a t j s.2.2.2.2.1∧s.2.1.1=m) (fun s=>s.1.2.1.length) (fun _ o=>∃x,o=some ((),x,())∧Laid m a t t.length x) ?_ F _ ⟨0,by simp,by simp,by simp,Laid.start hm a t,rfl⟩ (by unfold F;dsimp only;omega)
 rintro⟨⟨b,u,_⟩,⟨m',_⟩,_,_,x,_⟩ rec ⟨j,hj,h1,h2,hx,h3⟩ hrec
 dsimp only at h1 h2 h3 hx hrec⊢
 subst h1 h2 h3
 rw[show aA (t.drop j)=((t.length-j:Nat):Int)from by rw[ar,List.length_drop]]
 by_cases hjl:j<t.length
 ·have hmx:=hx.memT hm
  have hf:=hok j hjl
  rcases gY hm.r (a+j)with h0|⟨i,hi,h0,hb1,hb2,r0,r1,hb3,hdl⟩
  ·rw[h0]at hf;exact absurd (by decide) hf
  ·have hix:i<x.length:=by rw[hx.len];exact hi
   obtain⟨p1,p2,p3,p4,p5,p6⟩:=hmx.pg i hix
   rw[←kw hi]at hb1 hb2 hb3 hdl
   have hbe:=(hx.pg i hi).1
   obtain⟨o,ho⟩:=Int.eq_ofNat_of_zero_le (show 0≤a+j-(pgN m' i).base by omega)
   have hs:gN (a+j) 256=(o:Int):=by rw[mB r0];omega
   obtain⟨c,hc⟩:∃c:Nat,c=min (t.length-j) (256-o):=⟨_,rfl⟩
   have hi':fA ((t.length-j:Nat):Int) (cj .i64 256 (o:Int))=(c:Int):=by
    rw[c6 (by unfold I64;omega)];unfold fA;split<;>omega
   have hfi:fnd m' (a+j)=(i:Int):=h0
   rw[aa (eR (by omega)),cT m' hm.r,ag]
   dsimp only
   rw[hfi]
   simp only[pE,hs,hi',ar,p6]
   rw[bK (a:=(o:Int)) (by unfold I64;omega),bK (a:=a+j) (by unfold I64;omega)]
   rw[aa (cG (by omega) (by omega)),aa (gZ (by omega) (by omega)),aa (gZ (by omega) (by omega))]
   rw[aa (dA (by unfold dW;simp only[List.length_take];omega)),aa (gZ (by omega) (by omega))]
   rw[aa (dA (by unfold dW fd dN;simp only[List.length_take,List.length_append,List.length_drop];omega)),aa (gZ (by omega) (by omega))]
   refine hrec _ ⟨j+c,by omega,by dsimp only;omega,?_,?_,rfl⟩ ?_
   ·dsimp only;unfold fd;rw[List.drop_drop,Int.toNat_natCast]
   ·have:=Laid.step hm hx hi (o:=o) (c:=c) (by omega) (by omega) (by omega)
    dsimp only
    unfold ea dW fd dN
    rw[Int.toNat_natCast,Int.toNat_natCast,Int.toNat_natCast,show((o:Int)+(c:Int)).toNat=o+c by omega]
    exact this
   ·dsimp only;unfold fd;simp only[List.length_drop];omega
 ·have:j=t.length:=by omega
  subst this
  rw[af (eP (by omega))]
  exact⟨x,rfl,hx⟩
theorem oJ {n:Int}(h:qU n=true):n=1∨n=2∨n=4∨n=8:=by
 simp only[qU,eqI,Bool.or_eq_true,decide_eq_true_eq]at h;exact h
theorem kk (v:Int):(BitVec.ofInt 64 v).toNat=(v%18446744073709551616).toNat:=by
 rw[BitVec.toNat_ofInt];rfl
theorem pG (v:Int)(j:Nat)(hj:j<63):jq .i64 v (2^j-1)=v%2^j:=by
 unfold jq
 show IntKind.wrap .i64 (((BitVec.ofInt 64 v&&& BitVec.ofInt 64 (2^j-1)).toNat:Nat):Int)=_
 rw[BitVec.toNat_and,kk,kk]
 have hp:(1:Int)≤2^j:=Int.pow_pos (by decide)
 have hp2:(2:Int)^j*2^(63-j)=9223372036854775808:=by rw[←Int.pow_add,show j+(63-j)=63 by omega];rfl
 have hp3:(1:Int)≤2^(63-j):=Int.pow_pos (by decide)
 have hle:(2:Int)^j≤9223372036854775808:=by
  have:=Int.mul_le_mul_of_nonneg_left hp3 (show(0:Int)≤2^j by omega)
  omega
 have e2:(((2:Int)^j-1)%18446744073709551616).toNat=2^j-1:=by
  rw[Int.emod_eq_of_lt (by omega) (by omega)]
  have:((2^j:Nat):Int)=(2:Int)^j:=by simp
  omega
 rw[e2,Nat.and_two_pow_sub_one_eq_mod]
 have e3:((v%18446744073709551616).toNat%2^j:Nat)=((v%2^j).toNat):=by
  have h1:((v%18446744073709551616).toNat:Int)=v%18446744073709551616:=Int.toNat_of_nonneg (by omega)
  have h2:(((v%18446744073709551616).toNat%2^j:Nat):Int)=v%2^j:=by
   rw[Int.natCast_emod,h1,Int.natCast_pow]
   refine Int.emod_emod_of_dvd v ⟨2^(63-j)*2,?_⟩
   show(18446744073709551616:Int)=2^j*(2^(63-j)*2)
   rw[←Int.mul_assoc,hp2];rfl
  omega
 rw[e3,Int.toNat_of_nonneg (Int.emod_nonneg _ (by omega))]
 have h5:=Int.emod_lt_of_pos v (show(0:Int)<2^j by omega)
 have h6:=Int.emod_nonneg v (show(2:Int)^j≠0 by omega)
 exact bP ⟨by omega,by omega⟩
def fD (v:Int)(n:Nat):Int:=if n=8 then v else v%2^(8*n)
theorem zero_eq (v:Int)(n:Nat)(hn:qU (n:Int)=true):bj ((v,(n:Int),()),())=some (fD v n,()):=by
 unfold bj fD
 dsimp only
 by_cases h8:n=8
 ·subst h8;rw[show eqI ((8:Nat):Int) 8=true from rfl,cZ,if_pos rfl]
 ·have hn4:n≤4:=by rcases oJ hn with h|h|h|h<;>omega
  rw[af (eU (by omega)),j9 (by omega) (by omega),aa (oL (by omega)),if_neg h8]
  have hs:cj .i64 (gR .i64 1 (8*(n:Int))) 1=2^(8*n)-1:=by
   rcases oJ hn with h|h|h|h
   ·have:n=1:=by omega
    subst this;rfl
   ·have:n=2:=by omega
    subst this;rfl
   ·have:n=4:=by omega
    subst this;rfl
   ·omega
  rw[hs,pG v (8*n) (by omega)]
instance decI64 (n:Int):Decidable (I64 n):=by unfold I64;infer_instance
theorem i7 (v:Int)(k:Nat)(h0:1≤k)(h1:k≤8):aC ((v,(k:Int),()),())=some (IntKind.wrap .i64 ((uns v%2^(8*k):Nat):Int),()):=by
 unfold aC
 dsimp only
 rw[j9 (by omega) (by omega),f9 (by omega) (by omega)]
 have hu:uns v%2^(8*k)<2^(8*k):=Nat.mod_lt _ (Nat.two_pow_pos _)
 have hp:(2:Nat)^(8*k)≤2^64:=Nat.pow_le_pow_right (by decide) (by omega)
 generalize hw:uns v%2^(8*k)=w at hu⊢
 refine cy (fun x=>x.1.1=v∧ -1≤x.1.2.2.1∧x.1.2.2.1≤8*(k:Int)-1∧x.1.2.1=((w/2^(x.1.2.2.1+1).toNat:Nat):Int)) (fun x=>(x.1.2.2.1+1).toNat)
  (fun _=>some (IntKind.wrap .i64 (w:Int),())) ?_ F _ ⟨rfl,by dsimp only;omega,by dsimp only;omega,?_⟩ (by unfold F;dsimp only;omega)
 ·rintro⟨⟨v',acc,i,_⟩,_⟩ rec ⟨rfl,h2,h3,hacc⟩ hrec
  dsimp only at h2 h3 hacc hrec⊢
  by_cases hi:0≤i
  ·obtain⟨j,rfl⟩:=Int.eq_ofNat_of_zero_le hi
   rw[aa (oL hi),nA _ _ (by omega) (by omega),ag]
   dsimp only
   have e3:v'%2^64/2^((j:Int)).toNat%2=((w/2^j%2:Nat):Int):=by
    have hb:∀a j:Nat,a/2^j%2=(a.testBit j).toNat:=fun a j=>by rw[Nat.testBit_eq_decide_div_mod_eq];rcases Nat.mod_two_eq_zero_or_one (a/2^j)with h|h<;>simp[h]
    have:w/2^j%2=uns v'/2^j%2:=by
     rw[hb,hb,←hw,Nat.testBit_mod_two_pow,decide_eq_true (by omega),Bool.true_and]
    rw[this,←bu];simp
   rw[e3]
   have e4:w/2^(((j:Int)+1).toNat)=w/2^j/2:=by
    rw[show((j:Int)+1).toNat=j+1 by omega,Nat.pow_succ,Nat.div_div_eq_div_mul]
   rw[e4]at hacc
   generalize hq:w/2^j=q at hacc⊢
   have hq2:q<2^64:=by rw[←hq];exact Nat.lt_of_le_of_lt (Nat.div_le_self _ _) (by omega)
   have e5:aJ .u64 (fE .u64 2 acc) (aF .u64 ((q%2:Nat):Int))=(q:Int):=by
    unfold aJ fE aF
    rw[hacc,fJ (n:=2*((q/2:Nat):Int)) (by omega) (by omega),fJ (n:=((q%2:Nat):Int)) (by omega) (by omega),fJ (by omega) (by omega)]
    omega
   rw[e5,f9 (by omega) (by omega)]
   refine hrec _ ⟨rfl,by dsimp only;omega,by dsimp only;omega,?_⟩ (by dsimp only;omega)
   dsimp only
   rw[show((j:Int)-1+1).toNat=j by omega,hq]
  ·rw[af (qw hi)]
   have:i= -1:=by omega
   subst this
   rw[hacc]
   simp
   rfl
 ·dsimp only
  rw[show(8*(k:Int)-1+1).toNat=8*k by omega,Nat.div_eq_of_lt hu];rfl
theorem iI {v:Int}(hv:I64 v)(k:Nat)(hk:qU (k:Int)=true):aC ((v,(k:Int),()),())=some (fD v k,()):=by
 obtain⟨k1,k8⟩:1≤k∧k≤8:=by rcases oJ hk with h|h|h|h<;>omega
 rw[i7 v k k1 k8]
 unfold fD
 by_cases h8:k=8
 ·subst h8
  rw[if_pos rfl]
  have hlt:uns v<2^64:=by have:=bu v;have:=Int.emod_lt_of_pos v (show(0:Int)<2^64 by decide);omega
  rw[show 8*8=64 from rfl,Nat.mod_eq_of_lt hlt,bu]
  have he:IntKind.wrap .i64 (v%2^64)=IntKind.wrap .i64 v:=by
   simp[IntKind.wrap,IntKind.bits]
  rw[he,bP hv]
 ·rw[if_neg h8]
  have e:((uns v%2^(8*k):Nat):Int)=v%2^(8*k):=by
   rw[Int.natCast_emod,bu,show((2^(8*k):Nat):Int)=(2:Int)^(8*k)by simp]
   refine Int.emod_emod_of_dvd v ⟨2^(64-8*k),?_⟩
   rw[←Int.pow_add];congr 1;omega
  rw[e]
  have h1:=Int.emod_nonneg v (show(2:Int)^(8*k)≠0 from Int.ne_of_gt (Int.pow_pos (by decide)))
  have h2:=Int.emod_lt_of_pos v (show(0:Int)<2^(8*k)from Int.pow_pos (by decide))
  have h3:(2:Int)^(8*k)≤2^32:=by
   have:k=1∨k=2∨k=4:=by rcases oJ hk with h|h|h|h<;>omega
   rcases this with rfl|rfl|rfl<;>decide
  generalize (2:Int)^(8*k)=q at h1 h2 h3⊢
  rw[bP (n:=v%q) ⟨by omega,by omega⟩]
theorem uw (v:Int):uns v<2^64:=by have:=bu v;have:=Int.emod_lt_of_pos v (show(0:Int)<2^64 by decide);omega
theorem ip (v:Int):uns (IntKind.wrap .i64 v)=uns v:=by
 unfold uns
 have:IntKind.wrap .i64 v%2^64=v%2^64:=by
  simp only[IntKind.wrap,IntKind.bits,IntKind.signed,Bool.true_and]
  split<;>omega
 rw[this]
theorem pi {n:Nat}(h:n<2^64):uns (n:Int)=n:=by unfold uns;omega
theorem uns_ior (a b:Int):uns (ior .i64 a b)=uns a|||uns b:=by
 unfold ior
 rw[ip]
 show uns (((BitVec.ofInt 64 a|||BitVec.ofInt 64 b).toNat:Nat):Int)=_
 rw[pi (BitVec.isLt _),BitVec.toNat_or];rfl
theorem uns_inj {a b:Int}(ha:I64 a)(hb:I64 b)(h:uns a=uns b):a=b:=by
 unfold I64 at*
 have h1:=bu a
 have h2:=bu b
 rw[h]at h1
 omega
def lowU (v:Int)(n:Nat):Nat:=uns v%2^(8*n)
def intU (u n:Nat):Int:=IntKind.wrap .i64 ((u%2^(8*n):Nat):Int)
theorem nE {v:Int}(hv:I64 v){n:Nat}(hn:qU (n:Int)=true):fD v n=intU (lowU v n) n:=by
 unfold intU lowU
 rw[Nat.mod_mod]
 have h1:=iI hv n hn
 obtain⟨h1',h8⟩:1≤n∧n≤8:=by rcases oJ hn with h|h|h|h<;>omega
 rw[i7 v n h1' h8]at h1
 injection h1 with h1
 injection h1 with h1 _
 exact h1.symm
theorem rR (v:Int)(n:Nat):lowU v n<2^(8*n):=Nat.mod_lt _ (Nat.two_pow_pos _)
theorem tn (u n:Nat):I64 (intU u n):=c7 _
theorem t6 (u n:Nat)(hn:n≤8):uns (intU u n)=u%2^(8*n):=by
 unfold intU
 rw[ip]
 have h1:u%2^(8*n)<2^(8*n):=Nat.mod_lt _ (Nat.two_pow_pos _)
 have h2:(2:Nat)^(8*n)≤2^64:=Nat.pow_le_pow_right (by decide) (by omega)
 exact pi (by omega)
theorem sz_n {n:Nat}(hn:qU (n:Int)=true):n=1∨n=2∨n=4∨n=8:=by rcases oJ hn with h|h|h|h<;>omega
theorem sz_18 {n:Nat}(hn:qU (n:Int)=true):1≤n∧n≤8:=by rcases sz_n hn with h|h|h|h<;>omega
theorem tG {v:Int}(hv:I64 v){n:Nat}(hn:qU (n:Int)=true):I64 (fD v n):=by
 rw[nE hv hn];exact tn _ _
theorem qX (a b:Int):I64 (ior .i64 a b):=c7 _
theorem mL {v:Int}(hv:I64 v){n:Nat}(hn:qU (n:Int)=true):uns (fD v n)=lowU v n:=by
 rw[nE hv hn,t6 _ _ (sz_18 hn).2];exact Nat.mod_eq_of_lt (rR v n)
theorem tp_int (m:Nat):((2^m:Nat):Int)=(2:Int)^m:=by simp
theorem addU (a b:Int):aJ .u64 a b=(a+b)%18446744073709551616:=by unfold aJ;exact gD
theorem uq (x:Int)(k:Nat)(hk:k≤64):gR .u64 x (k:Int)=x*2^k%18446744073709551616:=by
 unfold gR
 rw[Int.toNat_natCast,show min k IntKind.u64.bits=k by simp[IntKind.bits];omega]
 exact gD
theorem sx_bdA (m:Nat)(hm:m≤63)(v:Int): -(2:Int)^m≤sx m v∧sx m v<2^m:=by
 unfold sx
 have hp:(0:Int)<2^(m+1):=Int.pow_pos (by decide)
 have h1:=Int.emod_nonneg v (Int.ne_of_gt hp)
 have h2:=Int.emod_lt_of_pos v hp
 have hd:(2:Int)^(m+1)=2^m*2:=Int.pow_succ 2 m
 have hb:v%2^64/2^m%2=v%2^(m+1)/2^m:=by
  have h64:(2:Int)^(m+1)*2^(63-m)=2^64:=by rw[←Int.pow_add];congr 1;omega
  have h1:v%2^(m+1)=v%2^64%2^(m+1):=by
   rw[Int.emod_emod_of_dvd]
   exact⟨2^(63-m),h64.symm⟩
  rw[h1,Int.pow_succ 2 m]
  have hu:=bu v
  rw[←hu]
  rw[←tp_int m]
  have h2:((2^m:Nat):Int)*2=((2^m*2:Nat):Int):=by simp
  rw[h2]
  rw[←Int.natCast_ediv,←Int.natCast_emod,←Int.natCast_ediv,Nat.mod_mul_right_div_self]
  simp
 rw[hb]
 have hpm:(0:Int)<2^m:=Int.pow_pos (by decide)
 generalize v%2^(m+1)=r at*
 by_cases hs:(2:Int)^m≤r
 ·have hq:r/2^m=1:=by
   rw[Int.ediv_eq_iff_of_pos hpm];omega
  rw[hq,if_pos rfl];omega
 ·have hq:r/2^m=0:=Int.ediv_eq_zero_of_lt h1 (by omega)
  rw[hq,if_neg (by decide)];omega
section
variable {y1 y0 u d:Nat}
end
def ny (k:Int)(c:UInt8):Prop:=k=1∧c=114∨k=2∧c=109∨k=3∧c=105∨k=0∧c=48
instance (k:Int) (c:UInt8):Decidable (ny k c):=by unfold ny;infer_instance
def r8 (kd ks:Int)(q:List UInt8):Bool:=match q with
 |[a,b]=>decide (ny kd a)&&decide (ny ks b)
 |_=>false
def szK (n:Nat):Nat:=if n≤16∨n=18∨n=19∨(20≤n∧n≤24)∨n=28 then 0 else if n=17∨n=25∨n=26∨n=27∨n=36∨n=39∨n=40 then 1 else if 29≤n∧n≤32 then 2 else if n=35∨n=41∨n=42 then 3 else 4
def szL (k:Nat):List Int:=if k=0 then [1,2,4,8]else if k=1 then [2,4,8]else if k=2 then [8]else if k=3 then [1]else [0]
def prK (n:Nat):List (List UInt8):=
 if n≤9 then [[114,114],[109,114],[114,109],[114,105],[109,105]]
 else if n=10∨(20≤n∧n≤24)then [[114,114],[109,114],[114,105],[109,105]]
 else if n=28 then [[114,114],[109,114]]
 else if n=11∨n=12∨n=18∨n=19∨n=30∨n=35 then [[114,48],[109,48]]
 else if 13≤n∧n≤16 then [[48,114],[48,109]]
 else if n=17∨n=36∨n=26∨n=27 then [[114,114],[114,109]]
 else if n=25 then [[114,109]]
 else if n=29∨n=31∨n=32 then [[48,114],[48,109],[48,105]]
 else if n=33∨n=44 then [[48,105]]
 else [[48,48]]
def regX (r z:Int):Prop:=0≤r∧r≤15∨z=1∧16≤r∧r≤19
def opB (k r b i s d m z:Int):Prop:=
 k=1∧b=0∧i=0∧s=0∧d=0∧m=0∧regX r z∨memP k r b i s d m∨k=3∧r=0∧b=0∧i=0∧s=0∧d=0∨k=0∧r=0∧b=0∧i=0∧s=0∧d=0∧m=0
instance (r z:Int):Decidable (regX r z):=by unfold regX;infer_instance
instance (k r b i s d m z:Int):Decidable (opB k r b i s d m z):=by unfold opB;infer_instance
set_option maxHeartbeats 4000000
set_option linter.unusedSimpArgs false
theorem cZ {α:Type}{x y:α}:br true x y=x:=rfl
def fitB (v z:Int):Bool:=fitsB v (fA z 4)
section
variable (x:Ins)
end
def numB (x:Ins)(n:Nat):Bool:=
 if n≤8∨n=10 then fitB x.src.imm x.size
 else if n=9 then decide (x.size=8∧x.dst.kind=1)||fitB x.src.imm x.size
 else if 20≤n∧n≤24 then decide (¬(x.src.kind=1∧x.src.reg≠1)∧0≤x.src.imm∧x.src.imm≤255)
 else if n=26 then decide (x.frm=1∨x.frm=2∧2<x.size)
 else if n=27 then decide (x.frm=1∨x.frm=2∧2<x.size∨x.frm=4∧x.size=8)
 else if n=29∨n=31∨n=32∨n=33 then fitB x.src.imm 4
 else if n=44 then decide (0≤x.src.imm∧x.src.imm≤255)
 else true
def shB (x:Ins)(n:Nat):Bool:=decide (x.size∈szL (szK n))&&((prK n).any (r8 x.dst.kind x.src.kind)&&numB x n)
set_option synthInstance.maxSize 40000
set_option synthInstance.maxHeartbeats 4000000
def rexP (k r b i z:Int):Prop:=k=1∧(8≤r∧r≤15∨z=1∧4≤r∧r≤7)∨k=2∧(8≤b∧b≤15∨8≤i)
instance (k r b i z:Int):Decidable (rexP k r b i z):=by unfold rexP;infer_instance
def noP (k r:Int):Prop:=k=1∧16≤r
instance (k r:Int):Decidable (noP k r):=by unfold noP;infer_instance
def sSz (x:Ins)(n:Nat):Int:=if 20≤n∧n≤24 then 8 else if 0<x.frm then x.frm else x.size
def pP (o:Opd)(z:Int):Prop:=opB o.kind o.reg o.base o.index o.scale o.disp o.imm z
def tV (o:Opd)(z:Int):Prop:=rexP o.kind o.reg o.base o.index z
def noPo (o:Opd):Prop:=noP o.kind o.reg
instance (o:Opd) (z:Int):Decidable (pP o z):=by unfold pP;infer_instance
instance (o:Opd) (z:Int):Decidable (tV o z):=by unfold tV;infer_instance
instance (o:Opd):Decidable (noPo o):=by unfold noPo;infer_instance
def insP (x:Ins)(n:Nat):Prop:=
 0≤x.len∧x.len≤15∧shB x n=true∧((n=26∨n=27)∨x.frm=0)∧((n=33∨n=35∨n=36)∨x.cond=0)∧0≤x.cond∧x.cond≤15∧pP x.dst x.size∧pP x.src (sSz x n)∧
 (¬(noPo x.dst∨noPo x.src)∨¬tV x.dst x.size∧¬tV x.src (sSz x n)∧(x.size≠8∨29≤n∧n≤32))
instance (x:Ins) (n:Nat):Decidable (insP x n):=by unfold insP;infer_instance
def kc (k:Int):Nat:=if k=1 then 1 else if k=2 then 2 else if k=3 then 3 else 0
def rq (x:Ins)(n:Nat):Prop:=if n=26 then x.frm=1∨x.frm=2∧2<x.size else if n=27 then x.frm=1∨x.frm=2∧2<x.size∨x.frm=4∧x.size=8 else x.frm=0
instance (x:Ins) (n:Nat):Decidable (rq x n):=by unfold rq;infer_instance
def iSz (x:Ins)(n:Nat):Int:=if x.frm≠0 then x.frm else if(20≤n∧n≤24)∨x.size=0 then 8 else x.size
def hiP (o:Opd):Prop:=o.kind=1∧16≤o.reg∧o.reg≤19
instance (o:Opd):Decidable (hiP o):=by unfold hiP;infer_instance
def askP (o:Opd)(z:Int):Prop:=o.kind=1∧(8≤o.reg∧o.reg≤15∨z=1∧4≤o.reg∧o.reg≤7)∨o.kind=2∧(8≤o.base∧o.base≤15∨8≤o.index∧o.index≤15)
instance (o:Opd) (z:Int):Decidable (askP o z):=by unfold askP;infer_instance
def fixP (n:Nat):Prop:=(29≤n∧n≤34)∨n=37∨n=38∨n=43∨n=44
instance (n:Nat):Decidable (fixP n):=by unfold fixP;infer_instance
def numI (x:Ins)(n:Nat):Bool:=
 if(20≤n∧n≤24)∨n=44 then decide (0≤x.src.imm∧x.src.imm≤255)
 else if n=9∧x.size=8∧x.dst.kind=1 then true
 else if x.size=0 then fitB x.src.imm 4 else fitB x.src.imm x.size
def insI (x:Ins)(n:Nat):Prop:=
 (0≤x.len∧x.len≤15)∧(0≤x.cond∧x.cond≤15)∧(x.cond=0∨n=33∨n=35∨n=36)∧x.size∈szL (szK n)∧rq x n∧(prK n).any (r8 (kc x.dst.kind) (kc x.src.kind))=true∧
 (kN (sI 1 x.size)∧pP x.dst (sI 1 x.size))∧(kN (iSz x n)∧pP x.src (iSz x n))∧(x.src.kind=3→numI x n=true)∧(20≤n∧n≤24→x.src.kind=1→x.src.reg=1)∧
 (¬(hiP x.dst∨hiP x.src)∨¬((x.size=8∧¬fixP n)∨askP x.dst x.size∨askP x.src (iSz x n)))
instance (x:Ins) (n:Nat):Decidable (insI x n):=by unfold insI;infer_instance
theorem uv {n:Nat}{z:Int}(h:z∈szL (szK n)):z=0∨z=1∨z=2∨z=4∨z=8:=by
 unfold szL at h
 repeat' split at h
 all_goals (simp only[List.mem_cons,List.not_mem_nil,or_false]at h;omega)
theorem opB_z {k r b i s d m z z':Int}(h:k≠1):opB k r b i s d m z↔opB k r b i s d m z':=by
 unfold opB
 constructor<;>(rintro(g|g);exact absurd g.1 h;exact .inr g)
theorem nI:∀n:Nat,n<45→(!((szL (szK n)).any fun z=>decide (z=0))||decide (n=0)||decide (prK n=[[48,105]])||decide (prK n=[[48,48]]))=true:=by decide +kernel
theorem oS (n:Nat)(h:n<45)(h1:1≤n)(hz:(0:Int)∈szL (szK n)):prK n=[[48,105]]∨prK n=[[48,48]]:=by
 have:=nI n h
 have e:((szL (szK n)).any fun z=>decide (z=0))=true:=List.any_eq_true.2 ⟨0,hz,rfl⟩
 rw[e]at this
 simp only[Bool.not_true,Bool.false_or,Bool.or_eq_true,decide_eq_true_eq]at this
 rcases this with (h|h)|h
 ·omega
 ·exact .inl h
 ·exact .inr h
theorem oK {k:Int}(h:ny k 48):k=0:=by
 unfold ny at h
 rcases h with h|h|h|h
 ·exact absurd h.2 (by decide)
 ·exact absurd h.2 (by decide)
 ·exact absurd h.2 (by decide)
 ·exact h.1
theorem tw {k:Int}(h:ny k 105):k=3:=by
 unfold ny at h
 rcases h with h|h|h|h
 ·exact absurd h.2 (by decide)
 ·exact absurd h.2 (by decide)
 ·exact h.1
 ·exact absurd h.2 (by decide)
theorem lQ {n:Nat}(h2:n<45)(h1:1≤n){k l:Int}(hs:(0:Int)∈szL (szK n))(ha:(prK n).any (r8 k l)=true):k=0∧(l=0∨l=3):=by
 rcases oS n h2 h1 hs with e|e<;>rw[e]at ha<;>simp only[List.any_cons,List.any_nil,Bool.or_false,r8,Bool.and_eq_true,decide_eq_true_eq]at ha
 ·exact⟨oK ha.1,.inr (tw ha.2)⟩
 ·exact⟨oK ha.1,.inl (oK ha.2)⟩
theorem nZ:∀n:Nat,n<45→((szL (szK n)).all fun z=>decide (1≤n→(n≤10→z≠0)∧(20≤n∧n≤24→z≠0)∧((n=33∨n=34∨n=37∨n=38∨n=43∨n=44)→z=0)∧(n=26∨n=27→z≠0)∧(29≤n∧n≤32→z=8)))=true:=by decide +kernel
theorem oY (n:Nat)(h:n<45)(h1:1≤n)(z:Int)(hz:z∈szL (szK n)):(n≤10→z≠0)∧(20≤n∧n≤24→z≠0)∧((n=33∨n=34∨n=37∨n=38∨n=43∨n=44)→z=0)∧(n=26∨n=27→z≠0)∧(29≤n∧n≤32→z=8):=
 of_decide_eq_true (List.all_eq_true.1 (nZ n h) z hz) h1
structure Com (x:Ins)(n:Nat):Prop where
 sz:x.size∈szL (szK n)
 any:(prK n).any (r8 x.dst.kind x.src.kind)=true
 frm:rq x n
variable {x:Ins}{n:Nat}
theorem Com.dst (h:Com x n)(h1:1≤n)(h2:n<45):(kN (sI 1 x.size)∧pP x.dst (sI 1 x.size))↔pP x.dst x.size:=by
 have hs:=uv h.sz
 by_cases h0:x.size=0
 ·have hk:=lQ h2 h1 (h0▸h.sz) h.any
  have e:sI 1 x.size=1:=by rw[h0];rfl
  rw[e]
  have:pP x.dst 1↔pP x.dst x.size:=opB_z (by omega)
  rw[this]
  exact⟨fun g=>g.2,fun g=>⟨.inl rfl,g⟩⟩
 ·have e:sI 1 x.size=x.size:=imax_r (by omega)
  rw[e]
  exact⟨fun g=>g.2,fun g=>⟨by unfold kN;omega,g⟩⟩
theorem Com.sizes (h:Com x n)(h1:1≤n)(h2:n<45):(iSz x n=sSz x n∧kN (iSz x n))∨(x.size=0∧x.src.kind≠1∧x.src.kind≠2∧kN (iSz x n)):=by
 have hs:=uv h.sz
 obtain⟨_,c2,_,c4,_⟩:=oY n h2 h1 x.size h.sz
 have hf:=h.frm
 unfold rq at hf
 unfold iSz sSz kN
 by_cases hn:20≤n∧n≤24
 ·rw[if_neg (by omega),if_neg (by omega)]at hf
  left
  rw[if_neg (by omega),if_pos (.inl hn),if_pos hn]
  omega
 ·by_cases hm:n=26∨n=27
  ·have hfr:x.frm=1∨x.frm=2∨x.frm=4:=by
    rcases hm with hm|hm
    ·rw[if_pos hm]at hf;omega
    ·rw[if_neg (by omega),if_pos hm]at hf;omega
   left
   rw[if_pos (by omega),if_neg hn,if_pos (by omega)]
   omega
  ·rw[if_neg (by omega),if_neg (by omega)]at hf
   by_cases h0:x.size=0
   ·right
    have hk:=lQ h2 h1 (h0▸h.sz) h.any
    rw[if_neg (by omega),if_pos (.inr h0)]
    omega
   ·left
    rw[if_neg (by omega),if_neg (by omega),if_neg hn,if_neg (by omega)]
    omega
theorem Com.src (h:Com x n)(h1:1≤n)(h2:n<45):(kN (iSz x n)∧pP x.src (iSz x n))↔pP x.src (sSz x n):=by
 rcases h.sizes h1 h2 with ⟨e,hz⟩|⟨h0,hk,_,hz⟩
 ·rw[e]at hz⊢
  exact⟨fun g=>g.2,fun g=>⟨hz,g⟩⟩
 ·have:pP x.src (iSz x n)↔pP x.src (sSz x n):=opB_z hk
  rw[this]
  exact⟨fun g=>g.2,fun g=>⟨hz,g⟩⟩
variable {x:Ins}{n:Nat}
abbrev Pos:=Except Int Int
section
variable {t:List UInt8}{a c:Int}
end
section
variable {t:List UInt8}{a c:Int}
end
section
variable {t:List UInt8}{a c x:Int}{w:Bool}
end
theorem lP {a b:Int}(h:a%18446744073709551616=b%18446744073709551616):IntKind.wrap .i64 a=IntKind.wrap .i64 b:=by
 simp only[IntKind.wrap,IntKind.bits,show(2:Int)^64=18446744073709551616 from rfl,h]
theorem kU (x:Int):IntKind.wrap .i64 x%18446744073709551616=x%18446744073709551616:=by
 have:=ip x
 have h1:=bu (IntKind.wrap .i64 x)
 have h2:=bu x
 rw[this]at h1
 rw[show(2:Int)^64=18446744073709551616 from rfl]at h1 h2
 omega
structure AddInv (A B c0 i out c:Nat):Prop where
 lo:out<2^i
 hc:c≤1
 e:out+2^i*c=A%2^i+B%2^i+c0
structure SubInv (A B c0 i out c:Nat):Prop where
 lo:out<2^i
 hc:c≤1
 e:out+B%2^i+c0=A%2^i+2^i*c
theorem sQ (A i:Nat):A/2^i%2=0∨A/2^i%2=1:=by omega
theorem AddInv.step {A B c0 i out c:Nat}(h:AddInv A B c0 i out c):
  AddInv A B c0 (i+1) (out+2^i*((A/2^i%2+B/2^i%2+c)%2)) ((A/2^i%2+B/2^i%2+c)/2):=by
 obtain⟨h1,h2,h3⟩:=h
 have hp:=Nat.two_pow_pos i
 have hx:=sQ A i
 have hy:=sQ B i
 have hc:c=0∨c=1:=by omega
 refine⟨?_,?_,?_⟩
 ·rw[Nat.pow_succ]
  rcases hx with hx|hx<;>rcases hy with hy|hy<;>rcases hc with hc|hc<;>rw[hx,hy,hc]<;>simp only[Nat.reduceAdd,Nat.reduceMod,Nat.mul_zero,Nat.mul_one]<;>omega
 ·omega
 ·rw[Nat.mod_pow_succ,Nat.mod_pow_succ,Nat.pow_succ]
  generalize A%2^i=a at*
  generalize B%2^i=b at*
  rcases hx with hx|hx<;>rcases hy with hy|hy<;>rcases hc with hc|hc<;>rw[hc]at h3<;>rw[hx,hy,hc]<;>simp only[Nat.reduceAdd,Nat.reduceMod,Nat.reduceDiv,Nat.mul_zero,Nat.mul_one]at* <;>omega
theorem SubInv.step {A B c0 i out c:Nat}(h:SubInv A B c0 i out c):
  SubInv A B c0 (i+1) (out+2^i*((A/2^i%2+2-B/2^i%2-c)%2)) (if A/2^i%2+2-B/2^i%2-c<2 then 1 else 0):=by
 obtain⟨h1,h2,h3⟩:=h
 have hp:=Nat.two_pow_pos i
 have hx:=sQ A i
 have hy:=sQ B i
 have hc:c=0∨c=1:=by omega
 refine⟨?_,?_,?_⟩
 ·rw[Nat.pow_succ]
  rcases hx with hx|hx<;>rcases hy with hy|hy<;>rcases hc with hc|hc<;>rw[hx,hy,hc]<;>simp only[Nat.reduceAdd,Nat.reduceSub,Nat.reduceMod,Nat.mul_zero,Nat.mul_one]<;>omega
 ·split<;>omega
 ·rw[Nat.mod_pow_succ,Nat.mod_pow_succ,Nat.pow_succ]
  generalize A%2^i=a at*
  generalize B%2^i=b at*
  rcases hx with hx|hx<;>rcases hy with hy|hy<;>rcases hc with hc|hc<;>rw[hc]at h3<;>rw[hx,hy,hc]<;>simp only[Nat.reduceAdd,Nat.reduceSub,Nat.reduceMod,Nat.mul_zero,Nat.mul_one,Nat.reduceLT,if_true,if_false]at* <;>omega
theorem rv (b k:Nat):b/2^k=2*(b/2^(k+1))+b/2^k%2:=by
 rw[Nat.pow_succ,←Nat.div_div_eq_div_mul]
 omega
structure QuoInv (hi lo d k q r:Nat):Prop where
 lt:r<d
 e:hi*2^(64-k)+lo/2^k=q*d+r
theorem QuoInv.step {hi lo d k q r:Nat}(hk:k<64)(H:QuoInv hi lo d (k+1) q r):
  (r*2+lo/2^k%2<d→QuoInv hi lo d k (q*2) (r*2+lo/2^k%2))∧(d≤r*2+lo/2^k%2→QuoInv hi lo d k (q*2+1) (r*2+lo/2^k%2-d)):=by
 obtain⟨h1,h2⟩:=H
 have hs:=rv lo k
 have e1:hi*2^(64-k)=2*(hi*2^(64-(k+1))):=by
  rw[show 64-k=64-(k+1)+1 by omega,Nat.pow_succ]
  generalize 2^(64-(k+1))=P
  rw[←Nat.mul_assoc,Nat.mul_comm]
 have e2:hi*2^(64-k)+lo/2^k=q*2*d+(r*2+lo/2^k%2):=by
  rw[Nat.mul_right_comm,e1]
  generalize hi*2^(64-(k+1))=p at*
  generalize q*d=s at*
  omega
 refine⟨fun h=>⟨h,e2⟩,fun h=>⟨by omega,?_⟩⟩
 rw[e2,Nat.add_mul,Nat.one_mul]
 generalize q*2*d=s at*
 omega
set_option linter.unusedVariables false
noncomputable section
theorem jL (m:List Page)(a p:Int):∀(n:Nat) (k:Int),b7 m a p n k=0∨b7 m a p n k=13∨b7 m a p n k=14
 |0,k=> .inl rfl
 |n+1,k=>by
  have ih:=jL m a p n (k+1)
  unfold b7
  split
  ·exact .inr (.inl rfl)
  ·split
   ·exact .inr (.inr rfl)
   ·exact ih
theorem rO (m:List Page)(a:Int)(n:Nat):I64 (fC m a n).1:=by
 unfold fC
 split
 ·exact c7 _
 ·unfold I64;dsimp only;omega
structure MS where
 g:List Int
 m:List Page
 code:Int
 l:List Acc
abbrev rg (g:List Int)(i:Int):Int:=aD g i (au .i)
def fK (g:List Int):Prop:=∀i,I64 (rg g i)
structure MS.ok (s:MS)(k:Nat):Prop where
 m:MemT s.m
 l:s.l.length≤k
 g:fK s.g
theorem MS.ok.mono {s:MS}{k j:Nat}(h:s.ok k)(hk:k≤j):s.ok j:=⟨h.m,Nat.le_trans h.l hk,h.g⟩
def setA (g:List Int)(i v:Int):List Int:=ea (jk 16 (au .i) g) i v
def setM (g:List Int)(r:Int)(n:Nat)(v:Int):List Int:=
 if 16≤r then setA g (r-16) (ior .i64 (gH .i64 (rg g (r-16)) 65280) (gR .i64 (fD v 1) 8))
 else if 4≤n then setA g r (fD v n)
 else setA g r (aJ .i64 (rg g r) (cj .i64 (fD v n) (fD (rg g r) n)))
theorem fK.setA {g:List Int}(h:fK g){i v:Int}(hv:I64 v):fK (setA g i v):=by
 intro j
 have h0:∀k:Nat,I64 (((jk 16 (au .i) g)).getD k (au .i)):=fun k=>by
  unfold jk
  rw[List.getD_eq_getElem?_getD,List.getElem?_append]
  split
  ·have:=h (k:Int)
   unfold rg aD at this
   rw[Int.toNat_natCast,List.getD_eq_getElem?_getD]at this
   exact this
  ·rw[List.getElem?_replicate]
   split
   ·exact(by unfold I64;decide:I64 (0:Int))
   ·exact(by unfold I64;decide:I64 (0:Int))
 unfold rg aD Go.Den.G.setA ea
 rw[List.getD_eq_getElem?_getD,List.getElem?_set]
 split
 ·split
  ·exact hv
  ·exact(by unfold I64;decide:I64 (0:Int))
 ·have:=h0 j.toNat
  rw[List.getD_eq_getElem?_getD]at this
  exact this
theorem setM_ok {g:List Int}(h:fK g){r v:Int}(hv:I64 v){n:Nat}(hn:qU (n:Int)=true):fK (setM g r n v):=by
 unfold setM
 split
 ·exact h.setA (qX ..)
 ·split
  ·exact h.setA (tG hv hn)
  ·exact h.setA (c7 _)
theorem jY (r:Int):aV ((r,()),())=some (decide (16≤r∧r≤19),()):=by
 unfold aV
 dsimp only
 rw[ob,ag]
 congr 2
 unfold inB
 rw[Bool.eq_iff_iff]
 simp
theorem MS.ok.setA {s:MS}{k:Nat}(hs:s.ok k){i v:Int}(hv:I64 v):MS.ok {s with g:=Go.Den.G.setA s.g i v} k:=⟨hs.m,hs.l,hs.g.setA hv⟩
end
set_option synthInstance.maxSize 4000
set_option synthInstance.maxHeartbeats 400000
noncomputable section
end
set_option linter.unusedSectionVars false
noncomputable section
section
variable {g:List Int}{m:List Page}{c:Int}{l:List Acc}{k:Nat}(hs:(MS.mk g m c l).ok k)(hk:k+3≤1000){x:Ins}
include hs hk
end
end
set_option linter.unusedSectionVars false
set_option linter.unusedVariables false
noncomputable section
section
variable {g:List Int}{m:List Page}{c:Int}{l:List Acc}{k:Nat}(hs:(MS.mk g m c l).ok k)(hk:k+4≤1000){x:Ins}{z:Nat}
include hs hk
end
end
noncomputable section
end
noncomputable section
end
noncomputable section
theorem qv (a b:Int):cP ((a,b,()),())=some (aJ .i64 a b,()):=by
 unfold cP
 dsimp only
 congr 2
 unfold aF
 rw[addU]
 unfold aJ
 refine lP ?_
 rw[gD,gD]
 omega
end
noncomputable section
theorem lV {a b:Int}(h:a%18446744073709551616=b%18446744073709551616):BitVec.ofInt 64 a=BitVec.ofInt 64 b:=by
 apply BitVec.eq_of_toNat_eq
 rw[BitVec.toNat_ofInt,BitVec.toNat_ofInt]
 show(a%18446744073709551616).toNat=(b%18446744073709551616).toNat
 rw[h]
theorem nq {a b c d:Int}(h1:a%18446744073709551616=c%18446744073709551616)(h2:b%18446744073709551616=d%18446744073709551616):aF .i64 (ior .u64 a b)=ior .i64 c d:=by
 unfold ior aF
 refine lP ?_
 rw[gD,Int.emod_emod]
 show((BitVec.ofInt 64 a|||BitVec.ofInt 64 b).toNat:Int)%_=((BitVec.ofInt 64 c|||BitVec.ofInt 64 d).toNat:Int)%_
 rw[lV h1,lV h2]
theorem jT {a b m:Int}(h:a%18446744073709551616=b%18446744073709551616):gH .u64 a m%18446744073709551616=gH .i64 b m%18446744073709551616:=by
 unfold gH
 rw[gD,Int.emod_emod,kU]
 show((BitVec.ofInt 64 a&&& ~~~BitVec.ofInt 64 m).toNat:Int)%_=((BitVec.ofInt 64 b&&& ~~~BitVec.ofInt 64 m).toNat:Int)%_
 rw[lV h]
theorem rx (a:Int)(k:Nat)(hk:k≤63):uns (gH .i64 a ((2^k-1:Nat):Int))=2^k*(uns a/2^k):=by
 unfold gH
 rw[ip]
 show uns (((BitVec.ofInt 64 a&&& ~~~BitVec.ofInt 64 ((2^k-1:Nat):Int)).toNat:Nat):Int)=_
 rw[pi (BitVec.isLt _)]
 have hm:(BitVec.ofInt 64 ((2^k-1:Nat):Int)).toNat=2^k-1:=by
  have hlt:2^k-1<2^64:=Nat.lt_of_lt_of_le (Nat.sub_lt (Nat.two_pow_pos k) (by decide)) (Nat.pow_le_pow_right (by decide) (by omega))
  rw[BitVec.toNat_ofInt]
  have:(((2^k-1:Nat):Int)%((2^64:Nat):Int))=(((2^k-1)%2^64:Nat):Int):=(Int.natCast_emod ..).symm
  rw[this,Int.toNat_natCast,Nat.mod_eq_of_lt hlt]
 refine Nat.eq_of_testBit_eq fun i=>?_
 rw[←BitVec.getLsbD,BitVec.getLsbD_and,BitVec.getLsbD_not]
 rw[BitVec.getLsbD,BitVec.getLsbD,hm,Nat.testBit_two_pow_sub_one,Nat.testBit_two_pow_mul]
 show((uns a).testBit i&&_)=_
 rw[Nat.testBit_div_two_pow]
 by_cases h:i<64
 ·by_cases hki:k≤i
  ·rw[decide_eq_true h,decide_eq_false (by omega),decide_eq_true hki,show i-k+k=i by omega];simp
  ·rw[decide_eq_true h,decide_eq_true (show i<k by omega),decide_eq_false hki];simp
 ·have:(uns a).testBit i=false:=Nat.testBit_lt_two_pow (Nat.lt_of_lt_of_le (uw a) (Nat.pow_le_pow_right (by decide) (by omega)))
  by_cases hki:k≤i
  ·rw[this,decide_eq_true hki,show i-k+k=i by omega,this];simp
  ·omega
theorem set_low {x v:Int}{n:Nat}(hn:n=1∨n=2)(hx:I64 x)(hv:I64 v)(m:Int)(hm:m=((2^(8*n)-1:Nat):Int)):
  aF .i64 (ior .u64 (gH .u64 (aF .u64 x) m) (gR .u64 (aF .u64 (fD v n)) 0))=aJ .i64 x (cj .i64 (fD v n) (fD x n)):=by
 have hs:qU (n:Int)=true:=by rcases hn with rfl|rfl<;>rfl
 have hw:∀z:Int,aF .u64 z=z%18446744073709551616:=fun z=>gD
 have e0:gR .u64 (aF .u64 (fD v n)) 0=aF .u64 (fD v n)%18446744073709551616:=by
  have:=uq (aF .u64 (fD v n)) 0 (by decide)
  rw[Int.pow_zero,Int.mul_one]at this
  exact this
 have h1:=jT (a:=aF .u64 x) (b:=x) (m:=m) (by rw[hw];omega)
 have h2:gR .u64 (aF .u64 (fD v n)) 0%18446744073709551616=fD v n%18446744073709551616:=by rw[e0,hw];omega
 rw[nq h1 h2]
 refine uns_inj (qX ..) (c7 _) ?_
 rw[uns_ior,hm,rx x _ (by omega),mL hv hs,←Nat.two_pow_add_eq_or_of_lt (rR v n)]
 unfold aJ cj
 rw[ip]
 have hl:=mL hv hs
 have hl2:=mL hx hs
 have c1:=bu (fD v n)
 have c2:=bu (fD x n)
 have c3:=bu x
 rw[hl]at c1
 rw[hl2]at c2
 have hlx:lowU x n=uns x%2^(8*n):=rfl
 have hdm:=Nat.div_add_mod (uns x) (2^(8*n))
 have hux:=uw x
 have hlv:=rR v n
 have hP:2^(8*n)≤65536:=by rcases hn with rfl|rfl<;>decide
 have hz:=bu (x+IntKind.wrap .i64 (fD v n-fD x n))
 have hwe:=kU (fD v n-fD x n)
 rw[show(2:Int)^64=18446744073709551616 from rfl]at*
 have key:((uns (x+IntKind.wrap .i64 (fD v n-fD x n)):Nat):Int)=((2^(8*n)*(uns x/2^(8*n))+lowU v n:Nat):Int):=by
  rw[hz]
  have hbd:2^(8*n)*(uns x/2^(8*n))+lowU v n<18446744073709551616:=by
   have hd64:2^(8*n)*(uns x/2^(8*n))+2^(8*n)≤2^64:=by
    have hq:uns x/2^(8*n)<2^(64-8*n):=Nat.div_lt_of_lt_mul (by rw[←Nat.pow_add,show 8*n+(64-8*n)=64 by omega];exact hux)
    have:2^(8*n)*(uns x/2^(8*n)+1)≤2^(8*n)*2^(64-8*n):=Nat.mul_le_mul_left _ hq
    rw[←Nat.pow_add,show 8*n+(64-8*n)=64 by omega,Nat.mul_add,Nat.mul_one]at this
    exact this
   exact Nat.lt_of_lt_of_le (Nat.add_lt_add_left hlv _) hd64
  rw[Int.natCast_add]
  obtain⟨A,hA⟩:∃A,A=2^(8*n)*(uns x/2^(8*n)):=⟨_,rfl⟩
  rw[←hA]at hdm hbd⊢
  rw[←hlx]at hdm
  generalize IntKind.wrap .i64 (fD v n-fD x n)=W at*
  omega
 omega
end
noncomputable section
theorem ishl8 (v:Int):gR .u64 (aF .u64 v) 8%18446744073709551616=gR .i64 v 8%18446744073709551616:=by
 have h1:gR .u64 (aF .u64 v) 8=aF .u64 v*256%18446744073709551616:=uq (aF .u64 v) 8 (by decide)
 have h2:aF .u64 v=v%18446744073709551616:=gD
 have h3:gR .i64 v 8=IntKind.wrap .i64 (v*256):=rfl
 rw[h1,h2,h3,kU]
 omega
theorem rI {g:List Int}{rip fl r v:Int}{n:Nat}(hg:fK g)(hv:I64 v)(hn:qU (n:Int)=true)(hr:regX r n):
  cA (((g,rip,fl,()),r,(n:Int),v,()),())=some ((setM g r n v,rip,fl,()),()):=by
 have h1:=iI hv n hn
 have h4:=oJ hn
 unfold regX at hr
 unfold cA setM Go.Den.G.setA
 dsimp only
 rw[h1,ag]
 dsimp only
 by_cases h16:16≤r
 ·have hn1:n=1:=by omega
  subst hn1
  rw[oL h16,cZ,ag,uu,if_pos h16,f9 (by omega) (by omega)]
  dsimp only
  rw[show leI 4 ((1:Nat):Int)=false from rfl,eQ,show fE .i64 8 ((1:Nat):Int)=8 from rfl,show aF .u64 8=8 from rfl,show leI 0 8=true from rfl,cZ,cZ,aa (cG (by omega) (by omega)),cZ,aa (cG (by omega) (by omega))]
  rw[show gR .u64 (cj .u64 (gR .u64 1 8) 1) 8=65280 from by decide]
  have e:=nq (a:=gH .u64 (aF .u64 (aD g (r-16) (au .i))) 65280) (b:=gR .u64 (aF .u64 (fD v 1)) 8) (c:=gH .i64 (aD g (r-16) (au .i)) 65280) (d:=gR .i64 (fD v 1) 8)
   (jT (by rw[show aF .u64 (aD g (r-16) (au .i))=_ from gD,Int.emod_emod])) (ishl8 _)
  rw[e]
 ·rw[qw h16,eQ,ag,uu,if_neg h16]
  dsimp only
  by_cases h4':4≤n
  ·rw[aa (oL (by omega)),aa (cG (by omega) (by omega)),if_pos h4']
  ·rw[af (qw (by omega)),if_neg h4']
   have hI:=hg r
   have hn12:n=1∨n=2:=by omega
   have e:=set_low (x:=rg g r) (v:=v) (n:=n) hn12 hI hv ((2^(8*n)-1:Nat):Int) rfl
   rcases hn12 with rfl|rfl
   ·rw[show fE .i64 8 ((1:Nat):Int)=8 from rfl,show aF .u64 8=8 from rfl,show aF .u64 0=0 from rfl,show leI 0 8=true from rfl,show leI 0 0=true from rfl,cZ,cZ,aa (cG (by omega) (by omega)),cZ,aa (cG (by omega) (by omega))]
    rw[show gR .u64 (cj .u64 (gR .u64 1 8) 1) 0=((2^(8*1)-1:Nat):Int)from by decide]
    rw[e]
   ·rw[show fE .i64 8 ((2:Nat):Int)=16 from rfl,show aF .u64 16=16 from rfl,show aF .u64 0=0 from rfl,show leI 0 16=true from rfl,show leI 0 0=true from rfl,cZ,cZ,aa (cG (by omega) (by omega)),cZ,aa (cG (by omega) (by omega))]
    rw[show gR .u64 (cj .u64 (gR .u64 1 16) 1) 0=((2^(8*2)-1:Nat):Int)from by decide]
    rw[e]
abbrev TR:=(List Int×Int×Int×List Page×Int×Int×Unit)×List Acc×Unit
def MS.r (s:MS)(rip fl nx:Int):TR:=((s.g,rip,fl,s.m,nx,s.code,()),s.l,())
end
set_option linter.unusedSectionVars false
noncomputable section
end
set_option linter.unusedSectionVars false
noncomputable section
section
variable {g:List Int}{m:List Page}{c:Int}{l:List Acc}{k:Nat}(hs:(MS.mk g m c l).ok k)(hk:k+4≤1000){x:Ins}{n z:Nat}{rip fl nx:Int}
include hs hk
end
end
set_option linter.unusedSectionVars false
noncomputable section
section
variable {g:List Int}{m:List Page}{c:Int}{l:List Acc}{k:Nat}(hs:(MS.mk g m c l).ok k)(hk:k+4≤1000){x:Ins}{n z:Nat}{rip fl nx:Int}
include hs hk
end
end
set_option linter.unusedSectionVars false
noncomputable section
section
variable {g:List Int}{m:List Page}{c:Int}{l:List Acc}{k:Nat}(hs:(MS.mk g m c l).ok k)(hk:k+4≤1000){x:Ins}{z:Nat}{rip fl nx:Int}
include hs hk
end
end
noncomputable section
end
instance decShz:DecidableEq (Int×Int×Int×Bool×Int×Unit):=inferInstance
instance decShz2:DecidableEq ((Int×Int×Int×Bool×Int×Unit)×Int×Unit):=inferInstance
section
variable {t:List UInt8}{a c:Int}
end
section
variable {t:List UInt8}{a c:Int}
end
section
variable {t:List UInt8}{a c:Int}
end
section
variable {t:List UInt8}{a c x:Int}{w:Bool}
end
section
variable {t:List UInt8}{a c x:Int}{w:Bool}
end
section
variable {t:List UInt8}{a c:Int}
end
section
variable {t:List UInt8}{a c:Int}
end
section
variable {t:List UInt8}{a c:Int}
end
section
variable {t:List UInt8}
end
section
variable {t:List UInt8}
end
section
variable {t:List UInt8}{a c x:Int}{w:Bool}
end
section
variable {t:List UInt8}
end
def Pos.Bd (p:Pos)(lo hi:Int):Prop:=∀a,p= .ok a→lo≤a∧a≤hi
section
variable {t:List UInt8}{lo hi:Int}
theorem Pos.Bd.mono {p:Pos}(h:p.Bd lo hi){lo' hi':Int}(h1:lo'≤lo)(h2:hi≤hi'):p.Bd lo' hi':=fun a ha=>by
 have:=h a ha;omega
end
section
variable {t:List UInt8}
end
def tabP1 (f op:Int)(by':Bool):Prop:=
 (f=1∧(1≤op∧op≤10∨op=28))∨(f=2∧(1≤op∧op≤9∨(op=17∨op=25∨op=36)∧by'=false))∨(f=3∧(1≤op∧op≤8∨op=10))∨(f=4∧1≤op∧op≤8)∨(f=5∧1≤op∧op≤9)
def tabP2 (f op:Int)(by':Bool)(frm:Int):Prop:=
 (f=17∧by'=false∧(op=26∧(frm=1∨frm=2)∨op=27∧(frm=1∨frm=2∨frm=4)))∨(f=6∧(10≤op∧op≤16∨op=18∨op=19∨29≤op∧op≤32∨op=35∧by'=true))∨(f=7∧(op=29∨op=30))∨(f=8∧op=9)
def tabP3 (f op:Int):Prop:=
 (f=9∧(op=32∨op=33))∨(f=15∧(op=29∨op=44))∨(f=10∧31≤op∧op≤33)∨(f=16∧op=29)∨((f=11∨f=12∨f=13)∧20≤op∧op≤24)
def tabP4 (f op:Int)(by':Bool):Prop:=
 f=14∧(op=34∨op=37∨op=38∨op=43∨(op=39∨op=40)∧by'=false∨(op=41∨op=42)∧by'=true)
instance (f op:Int) (b:Bool):Decidable (tabP1 f op b):=by unfold tabP1;infer_instance
instance (f op:Int) (b:Bool) (r:Int):Decidable (tabP2 f op b r):=by unfold tabP2;infer_instance
instance (f op:Int):Decidable (tabP3 f op):=by unfold tabP3;infer_instance
instance (f op:Int) (b:Bool):Decidable (tabP4 f op b):=by unfold tabP4;infer_instance
section
variable {t:List UInt8}
end
section
variable {t:List UInt8}
end
section
variable {t:List UInt8}
end
noncomputable section
theorem iterQ {σ τ α β:Type}{f:(σ→Option α)→σ→Option α}{g:(τ→Option β)→τ→Option β}(I:σ→τ→Prop)(μ:σ→Nat)(R:Option α→Option β→Prop)
  (h:∀x y r1 r2,I x y→(∀a b,I a b→μ a<μ x→R (r1 a) (r2 b))→R (f r1 x) (g r2 y)):∀(n:Nat) (x:σ) (y:τ),I x y→μ x<n→R (iter n f x) (iter n g y)
 |0,x,_,_,hm=>absurd hm (Nat.not_lt_zero _)
 |n+1,x,y,hI,hm=>h x y (iter n f) (iter n g) hI fun a b hy hlt=>iterQ I μ R h n a b hy (by omega)
end
def jm (m:List Page)(off n perm:Int):Bool:=decide (0≤off∧off≤4096∧0≤n∧n≤4096-off)&&decide (b7 m (16384+off) perm n.toNat 0=0)
theorem ly {m:List Page}(hm:MemR m)(off n perm:Int):bw (((m,()),off,n,perm,()),())=some (jm m off n perm,()):=by
 unfold bw jm
 dsimp only
 rw[dS,bO,ag]
 dsimp only
 by_cases h1:0≤off∧off≤4096
 ·rw[decide_eq_true h1,bm,eQ,f9 (by omega) (by omega),bO,ag,ag]
  by_cases h2:0≤n∧n≤4096-off
  ·obtain⟨k,rfl⟩:=Int.eq_ofNat_of_zero_le h2.1
   rw[decide_eq_true h2,bm,eQ,bb (by omega) (by omega),gB m hm _ _ k (by omega) (by unfold I64;omega),ag,Int.toNat_natCast]
   rw[decide_eq_true (show 0≤off∧off≤4096∧0≤(k:Int)∧(k:Int)≤4096-off by omega)]
   rfl
  ·rw[decide_eq_false h2,du,cZ,decide_eq_false (show ¬(0≤off∧off≤4096∧0≤n∧n≤4096-off)by omega)]
   rfl
 ·rw[decide_eq_false h1,du,cZ,ag,cZ,decide_eq_false (show ¬(0≤off∧off≤4096∧0≤n∧n≤4096-off)by omega)]
  rfl
theorem lr {m:List Page}(hm:MemR m)(off n perm:Int):aB (((m,()),off,n,perm,()),())=some (jm m off n perm,()):=by
 unfold aB jm
 dsimp only
 rw[bO,ag]
 dsimp only
 by_cases h1:0≤off∧off≤4096
 ·rw[decide_eq_true h1,bm,eQ,f9 (by omega) (by omega),bO,ag,ag]
  by_cases h2:0≤n∧n≤4096-off
  ·obtain⟨j,rfl⟩:=Int.eq_ofNat_of_zero_le h2.1
   rw[decide_eq_true h2,bm,eQ,decide_eq_true (show 0≤off∧off≤4096∧0≤(j:Int)∧(j:Int)≤4096-off by omega),Bool.true_and,Int.toNat_natCast]
   refine(cy (fun x=>∃k:Nat,k≤j∧x=((off,perm,(j:Int),(k:Int),()),(m,()),())) (fun x=>j-x.1.2.2.2.1.toNat) (fun x=>some (decide (b7 m (16384+off) perm (j-x.1.2.2.2.1.toNat) x.1.2.2.2.1=0),())) ?_ F _ ⟨0,by omega,rfl⟩ (by unfold F;dsimp only;omega)).trans ?_
   ·rintro _ rec ⟨k,hk,rfl⟩ hrec
    dsimp only
    rw[Int.toNat_natCast]
    by_cases hlt:k<j
    ·rw[aa (eR (by omega)),bb (a:=16384) (b:=off) (by omega) (by omega),bb (a:=16384+off) (b:=(k:Int)) (by omega) (by omega),cT m hm,ag,show j-k=(j-(k+1))+1 by omega,b7]
     dsimp only
     by_cases hf:fnd m (16384+off+(k:Int))<0
     ·rw[aa (eR hf),ag,cZ,if_pos hf]
      rfl
     ·rw[af (eP hf),if_neg hf,ar,aa (jQ hm hf),ag]
      by_cases hp:jq .i64 (aD m (fnd m (16384+off+(k:Int))) (au .page)).perm perm=0
      ·rw[aa (fe hp),if_pos hp]
       rfl
      ·rw[af (eU hp),if_neg hp,bb (by omega) (by omega),show(k:Int)+1=((k+1:Nat):Int)from rfl,hrec _ ⟨k+1,by omega,rfl⟩ (by dsimp only;omega)]
       dsimp only
       rw[Int.toNat_natCast]
    ·have:k=j:=by omega
     subst this
     rw[af (eP (by omega)),Nat.sub_self,b7]
     rfl
   ·dsimp only
    rfl
  ·rw[decide_eq_false h2,du,cZ,decide_eq_false (show ¬(0≤off∧off≤4096∧0≤n∧n≤4096-off)by omega)]
   rfl
 ·rw[decide_eq_false h1,du,cZ,ag,cZ,decide_eq_false (show ¬(0≤off∧off≤4096∧0≤n∧n≤4096-off)by omega)]
  rfl
theorem pY {m:List Page}(hm:MemR m){off n perm:Int}(h:jm m off n perm=true):0≤off∧off≤4096∧0≤n∧n≤4096-off∧∀k,k<n.toNat→¬fnd m (16384+off+(k:Nat))<0:=by
 simp only[jm,Bool.and_eq_true,decide_eq_true_eq]at h
 obtain⟨⟨h1,h2,h3,h4⟩,h5⟩:=h
 exact⟨h1,h2,h3,h4,fun k hk=>jK hm _ 0 h5 k (Nat.zero_le _) (by omega)⟩
def sG (p q:Page):Bool:=decide (p.base<q.base)
def jf (m:List Page)(p:Page):List Page:=match m with
 |[]=>[p]
 |q::r=>if sG p q=true then p::q::r else q::jf r p
theorem iv (p:Page):∀(m:List Page) (k:Nat),∃j,j≤m.length∧ba (sG p) m k=(if j<m.length then((k+j:Nat):Int)else -1)∧jf m p=m.take j++p::m.drop j∧(∀i,i<j→(pgN m i).base≤p.base)∧(j<m.length→p.base<(pgN m j).base)
 |[],k=>⟨0,by simp,rfl,rfl,by simp,by simp⟩
 |q::r,k=>by
  simp only[ba,jf]
  by_cases h:sG p q=true
  ·rw[if_pos h,if_pos h]
   exact⟨0,by simp,by simp,rfl,by simp,fun _=>of_decide_eq_true h⟩
  ·rw[if_neg h,if_neg h]
   obtain⟨j,h1,h2,h3,h4,h5⟩:=iv p r (k+1)
   refine⟨j+1,by simpa using h1,?_,by rw[h3];rfl,fun i hi=>?_,fun hj=>h5 (by simpa using hj)⟩
   ·rw[h2]
    by_cases hj:j<r.length
    ·rw[if_pos hj,if_pos (by simpa using hj)];congr 1;omega
    ·rw[if_neg hj,if_neg (by simpa using hj)]
   ·cases i with
    |zero=>show q.base≤p.base;unfold sG at h;simpa using h
    |succ i=>exact h4 i (by omega)
theorem nk (m:List Page)(hm:m.length≤1048576)(p:Page):aj ((m,()),(p.base,p.perm,p.data,()),())=some (ba (sG p) m 0,(p.base,p.perm,p.data,()),()):=by
 unfold aj bE
 dsimp only
 rw[ar]
 refine(cy (fun x=>∃k:Nat,k≤m.length∧x=((m,(m.length:Int),(k:Int),()),(p.base,p.perm,p.data,()),())) (fun x=>m.length-x.1.2.2.1.toNat) (fun x=>some (ba (sG p) (m.drop x.1.2.2.1.toNat) x.1.2.2.1.toNat,(p.base,p.perm,p.data,()),())) ?_ F _ ⟨0,by omega,rfl⟩ (by unfold F;dsimp only;omega)).trans rfl
 rintro _ rec ⟨k,hk,rfl⟩ hrec
 dsimp only
 rw[Int.toNat_natCast]
 by_cases h:k<m.length
 ·rw[aa (eR (by omega)),ar,aa (cG (by omega) (by omega)),ag,ch h,List.drop_eq_getElem_cons h,ba]
  dsimp only
  by_cases hg:p.base<m[k].base
  ·rw[aa (eR hg),if_pos (show sG p m[k]=true from decide_eq_true hg)]
  ·rw[af (eP hg),if_neg (by unfold sG;simpa using hg),bb (by omega) (by omega),show(k:Int)+1=((k+1:Nat):Int)from rfl,hrec _ ⟨k+1,by omega,rfl⟩ (by dsimp only;omega)]
   dsimp only
   rw[Int.toNat_natCast]
 ·rw[af (eP (by omega)),List.drop_eq_nil_of_le (by omega)]
  rfl
theorem px (m:List Page)(hm:m.length≤1048576):aw ((m,()),())=some ((),m,()):=by
 have:=oz m hm
 unfold aL at this
 dsimp only at this
 cases h:aw ((m,()),())with
 |none=>rw[h]at this;cases this
 |some z=>
  rw[h,ag]at this
  have:=Option.some.inj this
  obtain⟨_,a,_⟩:=z
  exact congrArg some this
theorem sA (m:List Page)(hm:m.length≤1000)(p:Page):aZ (((m,()),p,()),())=some ((),jf m p,()):=by
 unfold aZ
 dsimp only
 rw[nk m (by omega) p,ag]
 dsimp only
 obtain⟨j,h1,h2,h3,_⟩:=iv p m 0
 have hl:∀i:Nat,i≤m.length→nm m (i:Int)=true:=fun i hi=>by unfold nm lim;exact decide_eq_true (by omega)
 by_cases hj:j<m.length
 ·rw[if_pos hj,Nat.zero_add]at h2
  rw[h2,af (eP (by omega)),ag]
  dsimp only[jp]
  rw[px m (by omega),ag]
  dsimp only
  rw[hl j h1,cZ,h3]
  unfold me
  rw[Int.toNat_natCast]
 ·rw[if_neg hj]at h2
  have:j=m.length:=by omega
  subst this
  rw[h2,aa (eR (by decide)),ag]
  dsimp only[jp]
  rw[px m (by omega),ag]
  dsimp only
  rw[ar,hl _ (Nat.le_refl _),cZ,h3]
  unfold me
  rw[Int.toNat_natCast]
def kV:List UInt8:=fg (oe 256 (au .u))
theorem nU:bp (([0],256,()),())=some (kV,()):=by
 unfold bp ku
 dsimp only
 rw[aa (by decide),aa (by decide),aa (by decide)]
 have:Go.Lib.repeatL [0] (256:Int).toNat=kV:=by decide +kernel
 rw[this]
theorem sC:kV.length=256:=by simp[kV,fg,oe]
theorem rH (m:List Page)(hm:m.length≤1000)(b pm:Int):dh (((m,()),b,pm,()),())=some ((jf m (Page.mk b pm kV),()),()):=by
 unfold dh
 dsimp only
 have h256:inC 256 256=true:=by decide
 have hl256:ni 256=true:=by decide
 simp only[h256,hl256,cZ]
 refine(Ret.iter (fun x=>∃(k:Nat) (dn:Bool) (out:List Page),k≤m.length∧out.length≤k+dn.toNat∧x=((b,(dn,((k:Int),()))),((m,()),((),(out,((b,(pm,(kV,()))),())))))∧
  jf m (Page.mk b pm kV)=out++(if dn=true then m.drop k else jf (m.drop k) (Page.mk b pm kV))) (fun x=>m.length-x.1.2.2.1.toNat) ?_ F _ ⟨0,false,[],by omega,by simp,rfl,rfl⟩ (by unfold F;dsimp only;omega)).eq
 rintro _ rec ⟨k,dn,out,hk,hl,rfl,hE⟩ hrec
 dsimp only
 rw[ar]
 have hd1:dn.toNat≤1:=by cases dn<;>decide
 by_cases h:k<m.length
 ·have hir:inR (k:Int) (m.length:Int)=true:=cG (by omega) (by omega)
  rw[aa (eR (by omega)),hir,cZ,ch h]
  rw[List.drop_eq_getElem_cons h]at hE
  cases dn with
  |true=>
   rw[bm,eQ,ag,eQ,ag]
   dsimp only[jp]
   rw[ar,hir,cZ,ch h,aa (dA (by simp;omega)),bb (by omega) (by omega)]
   refine hrec _ ⟨k+1,true,out++[m[k]],by omega,by simp;omega,rfl,?_⟩ (by dsimp only;omega)
   rw[hE,if_pos rfl,if_pos rfl,List.append_assoc]
   rfl
  |false=>
   have hl:out.length≤k:=hl
   rw[du,cZ,ag]
   rw[if_neg (by decide),jf]at hE
   by_cases hg:b<m[k].base
   ·rw[aa (eR hg),aa (dA (by simp;omega)),ag]
    dsimp only[jp]
    rw[ar,hir,cZ,ch h,aa (dA (by unfold dN;simp;omega)),bb (by omega) (by omega)]
    refine hrec _ ⟨k+1,true,dN (dN out [Page.mk b pm kV]) [m[k]],by omega,by unfold dN;simp;omega,rfl,?_⟩ (by dsimp only;omega)
    rw[hE,if_pos (show sG (Page.mk b pm kV) m[k]=true from decide_eq_true hg),if_pos rfl]
    unfold dN
    simp
   ·rw[af (eP hg),ag]
    dsimp only[jp]
    rw[ar,hir,cZ,ch h,aa (dA (by simp;omega)),bb (by omega) (by omega)]
    refine hrec _ ⟨k+1,false,dN out [m[k]],by omega,by unfold dN;simp;omega,rfl,?_⟩ (by dsimp only;omega)
    rw[hE,if_neg (by unfold sG;simpa using hg),if_neg (by decide)]
    unfold dN
    simp
 ·have:k=m.length:=by omega
  subst this
  rw[af (eP (by omega))]
  rw[List.drop_length]at hE
  cases dn with
  |true=>
   rw[bm,eQ,ag]
   rw[if_pos rfl,List.append_nil]at hE
   exact Ret.some (by rw[hE])
  |false=>
   rw[du,cZ,aa (dA (by simp;omega)),ag]
   rw[if_neg (by decide)]at hE
   exact Ret.some (by rw[hE];rfl)
theorem addPg_T {m:List Page}(hm:MemT m)(hl:m.length<32){p:Page}(h0:0≤p.base)(h1:p.base≤65280)(h2:p.base%256=0)(h3:0≤p.perm)(h4:p.perm≤7)(h5:p.data.length=256)(hf:fnd m p.base<0):MemT (jf m p):=by
 obtain⟨j,g1,_,g3,g4,g5⟩:=iv p m 0
 have hno:∀i,i<m.length→¬((pgN m i).base≤p.base∧p.base-(pgN m i).base<256):=fun i hi hc=>by
  rcases ez (ec p.base) m 0 with ⟨_,hq⟩|⟨k,hk,hq,_⟩
  ·have:=hq _ (List.getElem_mem hi)
   rw[←kw hi]at this
   simp only[ec,Bool.and_eq_false_iff,decide_eq_false_iff_not]at this
   omega
  ·unfold fnd at hf
   omega
 have hx:∀i,pgN (jf m p) i=if i<j then pgN m i else if i=j then p else pgN m (i-1):=fun i=>by
  rw[g3]
  unfold pgN
  rw[List.getD_eq_getElem?_getD,List.getElem?_append,List.length_take,Nat.min_eq_left g1]
  by_cases hi:i<j
  ·rw[if_pos hi,if_pos hi,List.getElem?_take,if_pos hi,List.getD_eq_getElem?_getD]
  ·rw[if_neg hi,if_neg hi]
   by_cases he:i=j
   ·rw[if_pos he,he,Nat.sub_self];rfl
   ·rw[if_neg he,show i-j=(i-1-j)+1 by omega,List.getElem?_cons_succ,List.getElem?_drop,show j+(i-1-j)=i-1 by omega,List.getD_eq_getElem?_getD]
 have hlen:(jf m p).length=m.length+1:=by rw[g3];simp;omega
 refine⟨by omega,fun i hi=>?_,fun i hi=>?_⟩
 ·rw[hlen]at hi
  rw[hx]
  by_cases a1:i<j
  ·rw[if_pos a1];exact hm.pg i (by omega)
  ·rw[if_neg a1]
   by_cases a2:i=j
   ·rw[if_pos a2];exact⟨h0,h1,h2,h3,h4,h5⟩
   ·rw[if_neg a2];exact hm.pg (i-1) (by omega)
 ·rw[hlen]at hi
  rw[hx,hx]
  by_cases a1:i+1<j
  ·rw[if_pos (by omega),if_pos a1];exact hm.ord i (by omega)
  ·by_cases a2:i+1=j
   ·rw[if_pos (by omega),if_neg a1,if_pos a2]
    have:=g4 i (by omega)
    have:=hno i (by omega)
    omega
   ·by_cases a3:i=j
    ·rw[if_neg (by omega),if_pos a3,if_neg (by omega),if_neg (by omega),a3]
     exact g5 (by omega)
    ·rw[if_neg (by omega),if_neg a3,if_neg (by omega),if_neg (by omega)]
     have:=hm.ord (i-1) (by omega)
     rw[show i-1+1=i by omega]at this
     exact this
abbrev bx (c:List Int)(rip fl:Int)(m:List Page)(heap brk:Int)(inp:List UInt8)(pos:Int)(out:List UInt8)(clk seed st cd ft wh:Int):=
 (c,rip,fl,m,heap,brk,inp,pos,out,clk,seed,st,cd,ft,wh,())
abbrev bi (c:List Int)(rip fl heap brk:Int)(inp:List UInt8)(pos:Int)(out:List UInt8)(clk seed st cd ft wh:Int):=
 (c,rip,fl,heap,brk,inp,pos,out,clk,seed,st,cd,ft,wh,())
section
variable {c:List Int}{rip fl:Int}{m:List Page}{heap brk:Int}{inp:List UInt8}{pos:Int}{out:List UInt8}{clk seed st cd ft wh:Int}
theorem qi (hm:MemT m)(h1:512≤heap)(h2:heap≤brk)(h3:brk≤3584)(n:Int):
  ∃(m':List Page) (brk' v:Int),MemT m'∧heap≤brk'∧brk'≤3584∧(v= -12∧m'=m∧brk'=brk∨v=brk∧brk'=aJ .i64 brk n)∧
   ct ((bx c rip fl m heap brk inp pos out clk seed st cd ft wh,n,()),())=some ((bx c rip fl m' heap brk' inp pos out clk seed st cd ft wh,v,()),())∧
   be ((n,()),bi c rip fl heap brk inp pos out clk seed st cd ft wh,m,())=some (v,bi c rip fl heap brk' inp pos out clk seed st cd ft wh,m',()):=by
 unfold ct be
 dsimp only[bx,bi,p5,d5,d6]
 obtain⟨T,hT⟩:∃T,T=aJ .i64 brk n:=⟨_,rfl⟩
 rw[←hT,dS,bO,ag,ag]
 dsimp only
 by_cases h:heap≤T∧T≤3584
 rotate_left
 ·rw[decide_eq_false h,du,cZ,cZ]
  exact⟨m,brk,-12,hm,h2,h3,.inl ⟨rfl,rfl,rfl⟩,rfl,rfl⟩
 have h256:aQ (eqI 256 0)=true:=by decide
 have e1:fE .i64 (sd .i64 heap 256) 256=heap/256*256:=by rw[pT (by omega) (by omega) (by omega),j9 (by omega) (by omega)]
 have e2:cj .i64 heap (gN heap 256)=heap/256*256:=by rw[mB (by omega),f9 (by omega) (by omega)];omega
 simp only[decide_eq_true h,bm,eQ,h256,cZ,e1,e2]
 refine iterQ (fun x y=>∃(k:Int) (mk:List Page),MemT mk∧0≤k∧k≤4096∧k%256=0∧
   x=((T,k,()),bx c rip fl m heap brk inp pos out clk seed st cd ft wh,(([]:List Int),0,0,0,0,([]:List UInt8),0,([]:List UInt8),0,0,0,0,0,0,()),([]:List Page),(mk,()),())∧
   ((mk=m∧y=Sum.inl ((n,(k,())),(bi c rip fl heap brk inp pos out clk seed st cd ft wh,(m,((),())))))∨y=Sum.inr ((n,(k,())),(bi c rip fl heap brk inp pos out clk seed st cd ft wh,(m,((),(mk,())))))))
  (fun x=>(T-x.1.2.1).toNat)
  (fun o1 o2=>∃(m':List Page) (brk' v:Int),MemT m'∧heap≤brk'∧brk'≤3584∧(v= -12∧m'=m∧brk'=brk∨v=brk∧brk'=T)∧
   o1=some ((bx c rip fl m' heap brk' inp pos out clk seed st cd ft wh,(v,())),())∧o2=some (v,(bi c rip fl heap brk' inp pos out clk seed st cd ft wh,(m',())))) ?_ F _ _
  ⟨heap/256*256,m,hm,by omega,by omega,by omega,rfl,.inl ⟨rfl,rfl⟩⟩ (by unfold F;dsimp only;omega)
 rintro _ y r1 r2 ⟨k,mk,hk,k0,k1,k2,rfl,hy⟩ hrec
 have hfit:=hk.len
 dsimp only[bx]
 by_cases hlt:k<T
 rotate_left
 ·rw[af (eP hlt)]
  refine⟨mk,T,brk,hk,h.1,h.2,.inr ⟨rfl,rfl⟩,rfl,?_⟩
  rcases hy with ⟨rfl,rfl⟩|rfl
  ·dsimp only[jp,bi]
   rw[←hT,af (eP hlt)]
  ·dsimp only[jp,bi]
   rw[←hT,af (eP hlt)]
 have ha:aJ .i64 16384 k=16384+k:=bb (by omega) (by omega)
 have hk':aJ .i64 k 256=k+256:=bb (by omega) (by omega)
 rw[aa (eR hlt),ha,fo mk hk.r _ (by unfold I64;omega),ag,hk']
 dsimp only
 by_cases hf:0≤fnd mk (16384+k)
 ·rw[aa (oL hf)]
  rcases hy with ⟨rfl,rfl⟩|rfl
  ·dsimp only[jp,bi]
   rw[←hT,aa (eR hlt),ha,cT _ hk.r,ag]
   dsimp only
   rw[aa (oL hf),hk']
   exact hrec _ _ ⟨k+256,mk,hk,by omega,by omega,by omega,rfl,.inl ⟨rfl,rfl⟩⟩ (by dsimp only;omega)
  ·dsimp only[jp,bi]
   rw[←hT,aa (eR hlt),ha,cT _ hk.r,ag]
   dsimp only
   rw[aa (oL hf),hk']
   exact hrec _ _ ⟨k+256,mk,hk,by omega,by omega,by omega,rfl,.inr rfl⟩ (by dsimp only;omega)
 ·rw[af (qw hf),ar]
  by_cases h32:(mk.length:Int)=32
  ·rw[aa (fe h32)]
   refine⟨m,brk,-12,hm,h2,h3,.inl ⟨rfl,rfl,rfl⟩,rfl,?_⟩
   rcases hy with ⟨rfl,rfl⟩|rfl
   ·dsimp only[jp,bi]
    rw[←hT,aa (eR hlt),ha,cT _ hk.r,ag]
    dsimp only
    rw[af (qw hf),ar,aa (fe h32)]
   ·dsimp only[jp,bi]
    rw[←hT,aa (eR hlt),ha,cT _ hk.r,ag]
    dsimp only
    rw[af (qw hf),ar,aa (fe h32)]
  ·have hT':MemT (jf mk (Page.mk (16384+k) 3 kV)):=addPg_T hk (by omega) (by show 0≤16384+k;omega) (by show 16384+k≤65280;omega) (by show(16384+k)%256=0;omega) (by show(0:Int)≤3;decide) (by show(3:Int)≤7;decide) sC (by show fnd mk (16384+k)<0;omega)
   rw[af (eU h32),rH mk (by omega),ag]
   rcases hy with ⟨rfl,rfl⟩|rfl
   ·dsimp only[jp,bi]
    rw[←hT,aa (eR hlt),ha,cT _ hk.r,ag]
    dsimp only
    rw[af (qw hf),ar,af (eU h32),nU,ag,sA _ (by omega),ag,hk']
    exact hrec _ _ ⟨k+256,_,hT',by omega,by omega,by omega,rfl,.inr rfl⟩ (by dsimp only;omega)
   ·dsimp only[jp,bi]
    rw[←hT,aa (eR hlt),ha,cT _ hk.r,ag]
    dsimp only
    rw[af (qw hf),ar,af (eU h32),nU,ag,sA _ (by omega),ag,hk']
    exact hrec _ _ ⟨k+256,_,hT',by omega,by omega,by omega,rfl,.inr rfl⟩ (by dsimp only;omega)
end
section
variable {c:List Int}{rip fl:Int}{m:List Page}{heap brk:Int}{inp:List UInt8}{pos:Int}{out:List UInt8}{clk seed st cd ft wh:Int}
theorem tX (hm:m.length≤maxLen)(hd:∀x∈m,x.data.length≤maxLen):∃r:Int,dI ((bx c rip fl m heap brk inp pos out clk seed st cd ft wh,1048576,()),())=some (r,())∧(0≤r→m.length≤1048576):=by
 unfold dI
 dsimp only[bx,p6,p8]
 obtain⟨r,e,hr⟩:=pd m hm hd
 rw[e,ag]
 dsimp only
 by_cases h1:r<0
 ·rw[aa (eR h1)];exact⟨-1,rfl,fun h=>absurd h (by decide)⟩
 ·rw[af (eP h1)]
  have hm:=hr (by omega)
  by_cases h2:ltI (cj .i64 r (aA inp)) 0=true
  ·rw[aa h2];exact⟨-1,rfl,fun h=>absurd h (by decide)⟩
  ·rw[af (by simpa using h2)]
   by_cases h3:ltI (cj .i64 (cj .i64 r (aA inp)) (aA out)) 0=true
   ·rw[aa h3];exact⟨-1,rfl,fun h=>absurd h (by decide)⟩
   ·rw[af (by simpa using h3)];exact⟨_,rfl,fun _=>hm⟩
theorem tZ (h:c.length=16)(hm:m.length≤1048576):bR ((bx c rip fl m heap brk inp pos out clk seed st cd ft wh,()),())=some (bi c rip fl heap brk inp pos out clk seed st cd ft wh,m,()):=by
 unfold bR
 dsimp only[bx]
 rw[t1 rip fl h,ag,pf m hm,ag]
theorem li (hm:m.length≤1048576):bQ ((bx c rip fl m heap brk inp pos out clk seed st cd ft wh,bx c rip fl m heap brk inp pos out clk seed st cd ft wh,()),())=some (true,()):=by
 unfold bQ
 dsimp only[bx,p5,p6,p7,p8,p9,p10,p11,p12,p13,p14]
 simp only[qp,lZ m hm,ag,bm,eQ,fe rfl,show eqS inp inp=true from decide_eq_true rfl,show eqS out out=true from decide_eq_true rfl]
theorem lA (k:Int)(h0:1≤k)(h1:k≤68719476736)(hm:m.length≤1073741824):ce ((bi c rip fl heap brk inp pos out clk seed st cd ft wh,k,()),m,())=some (k+3*m.length,rU k m.length,()):=by
 unfold ce
 dsimp only
 rw[mp k m h0 h1 hm,ag]
theorem qq (k:Int)(n:Nat)(h0:1≤k)(h1:k≤68719476736)(hn:n≤1073741824):cc ((bx c rip fl (rU k n) heap brk inp pos out clk seed st cd ft wh,k,()),())=some (k+3*n,()):=by
 unfold cc
 dsimp only[bx]
 rw[mc k n h0 h1 hn,ag]
 dsimp only
 rw[af (eP (by omega))]
end
def od (st cd ft wh:Int):Prop:=st=1∧cd=0∧ft=0∧wh=0∨st=2∧ -2147483648≤cd∧cd≤2147483647∧ft=0∧wh=0∨st=3∧cd=0∧1≤ft∧ft≤35
instance (st cd ft wh:Int):Decidable (od st cd ft wh):=by unfold od;infer_instance
def pq (f:Int)(ms:List Page)(heap brk:Int)(inp:List UInt8)(pos:Int)(out:List UInt8)(clk seed st cd ft wh:Int):Prop:=
 jP f=true∧iK ms=true∧512≤heap∧heap≤3584∧heap≤brk∧brk≤3584∧(inp.length:Int)≤1024∧0≤pos∧pos≤(inp.length:Int)∧(out.length:Int)≤512∧0≤clk∧clk≤1000000∧0≤seed∧seed≤2147483647∧od st cd ft wh
instance (f:Int) (ms:List Page) (heap brk:Int) (inp:List UInt8) (pos:Int) (out:List UInt8) (clk seed st cd ft wh:Int):Decidable (pq f ms heap brk inp pos out clk seed st cd ft wh):=by unfold pq;infer_instance
theorem sx4 {v:Int}(h:I64 v):eqI (sx (8*4-1:Int).toNat v) v=decide (-2147483648≤v∧v≤2147483647):=by
 have h1:=pD h
 unfold dz at h1
 rw[oX v 4 (by decide) (by decide),ag]at h1
 simpa using h1
theorem tu {c:List Int}{p f:Int}{ms:List Page}{heap brk:Int}{inp:List UInt8}{pos:Int}{out:List UInt8}{clk seed st cd ft wh:Int}(h:I64 cd):
  bW (((c,p,f,ms,heap,brk,inp,pos,out,clk,seed,st,cd,ft,wh,()),()),())=some (decide (od st cd ft wh),()):=by
 unfold bW
 dsimp only[p11,p12,p13,p14]
 by_cases h1:st=1
 ·rw[aa (fe h1)]
  simp only[jE,ag,eqI]
  congr 2
  rw[Bool.eq_iff_iff,decide_eq_true_eq]
  simp only[Bool.and_eq_true,decide_eq_true_eq]
  unfold od
  omega
 ·rw[af (eU h1)]
  by_cases h2:st=2
  ·rw[aa (fe h2),pD h]
   simp only[jE,ag,eqI]
   congr 2
   rw[Bool.eq_iff_iff,decide_eq_true_eq]
   simp only[Bool.and_eq_true,decide_eq_true_eq]
   unfold od
   omega
  ·rw[af (eU h2)]
   by_cases h3:st=3
   ·rw[aa (fe h3),bO]
    simp only[jE,ag,eqI]
    congr 2
    rw[Bool.eq_iff_iff,decide_eq_true_eq]
    simp only[Bool.and_eq_true,decide_eq_true_eq]
    unfold od
    omega
   ·rw[af (eU h3)]
    congr 2
    symm
    refine decide_eq_false fun h=>?_
    unfold od at h
    omega
theorem sK {c:List Int}{p f:Int}{ms:List Page}{heap brk:Int}{inp:List UInt8}{pos:Int}{out:List UInt8}{clk seed st cd ft wh:Int}(h:I64 cd)(hm:ms.length≤1048576):
  dF (((c,p,f,ms,heap,brk,inp,pos,out,clk,seed,st,cd,ft,wh,()),()),())=some (decide (pq f ms heap brk inp pos out clk seed st cd ft wh),()):=by
 unfold dF eg ei
 dsimp only[p5,p6,p7,p8,p9,p10]
 simp only[sL,ji ms (by omega) (by unfold F;omega),bO,tu h,jE,ag]
 congr 2
 rw[Bool.eq_iff_iff,decide_eq_true_eq]
 simp only[Bool.and_eq_true,decide_eq_true_eq,le_iff,and_assoc]
 unfold pq
 exact Iff.rfl
theorem si {c:List Int}{p f:Int}{ms:List Page}{heap brk:Int}{inp:List UInt8}{pos:Int}{out:List UInt8}{clk seed st cd ft wh:Int}(h:I64 cd)(hf:I64 f)(hm:ms.length≤1048576):
  dK (((c,p,f,ms,heap,brk,inp,pos,out,clk,seed,st,cd,ft,wh,()),()),())=some (decide (pq f ms heap brk inp pos out clk seed st cd ft wh),()):=by
 unfold dK
 dsimp only[p5,p6,p7,p8,p9,p10,p11,p12,p13,p14]
 rw[dS]
 simp only[sj hf,jn ms (by omega),bO,br_or,jE,ag,iH cd 4 (by decide) (by decide),sx4 h]
 by_cases hA:jP f=true∧iK ms=true∧512≤heap∧heap≤3584∧heap≤brk∧brk≤3584∧(inp.length:Int)≤1024∧0≤pos∧pos≤(inp.length:Int)∧(out.length:Int)≤512∧0≤clk∧clk≤1000000∧0≤seed∧seed≤2147483647∧1≤st∧st≤3
 ·obtain⟨a1,a2,a3,a4,a5,a6,a7,a8,a9,a10,a11,a12,a13,a14,a15,a16⟩:=hA
  have e:pq f ms heap brk inp pos out clk seed st cd ft wh↔od st cd ft wh:=by unfold pq;simp[*]
  have b1:ltI 1024 (aA inp)=false:=lt_no (by unfold aA;omega)
  have b2:ltI 512 (aA out)=false:=lt_no (by unfold aA;omega)
  rw[af (by simp[aQ,aA, *];exact⟨b1,b2⟩)]
  have ee:decide (pq f ms heap brk inp pos out clk seed st cd ft wh)=decide (od st cd ft wh):=by rw[Bool.eq_iff_iff,decide_eq_true_eq,decide_eq_true_eq,e]
  rw[ee]
  clear ee e a1 a2 a3 a4 a5 a6 a7 a8 a9 a10 a11 a12 a13 a14 b1 b2
  by_cases h2:st=2
  ·subst h2
   by_cases hc: -2147483648≤cd∧cd≤2147483647
   ·rw[fe rfl,bm,af rfl,decide_eq_true hc,bm,af rfl,eU (by decide),du,aa rfl]
    congr 2
    rw[Bool.eq_iff_iff,decide_eq_true_eq]
    simp only[Bool.and_eq_true,pC]
    unfold od
    omega
   ·rw[fe rfl,bm,af rfl,decide_eq_false hc,du,aa rfl]
    congr 2
    symm
    exact decide_eq_false (by unfold od;omega)
  ·rw[eU h2,du,aa rfl]
   by_cases hc:cd=0
   ·rw[fe hc,bm,af rfl,decide_eq_true (by omega),bm,af rfl]
    by_cases h3:st=3
    ·rw[fe h3,bm,af rfl]
     congr 2
     rw[Bool.eq_iff_iff,decide_eq_true_eq,decide_eq_true_eq]
     unfold od
     omega
    ·rw[eU h3,du,aa rfl]
     congr 2
     rw[Bool.eq_iff_iff,decide_eq_true_eq]
     simp only[Bool.and_eq_true,pC]
     unfold od
     omega
   ·rw[eU hc,du,aa rfl]
    congr 2
    symm
    exact decide_eq_false (by unfold od;omega)
 ·rw[aa ?_]
  ·congr 2
   symm
   refine decide_eq_false fun hb=>hA ?_
   unfold pq od at hb
   obtain⟨a1,a2,a3,a4,a5,a6,a7,a8,a9,a10,a11,a12,a13,a14,a15⟩:=hb
   exact⟨a1,a2,a3,a4,a5,a6,a7,a8,a9,a10,a11,a12,a13,a14,by omega,by omega⟩
  ·revert hA
   unfold aA
   cases jP f<;>cases iK ms<;>simp[aQ,rS]<;>omega
section
variable {c:List Int}{rip fl:Int}{m:List Page}{heap brk:Int}{inp:List UInt8}{pos:Int}{out:List UInt8}{clk seed st cd ft wh:Int}
theorem se (hm:MemT m)(h1:(inp.length:Int)≤1024)(h2:0≤pos)(h3:pos≤(inp.length:Int))(p q:Int):
  ∃(m':List Page) (pos' v:Int),MemT m'∧0≤pos'∧pos'≤(inp.length:Int)∧I64 v∧(v= -14∧m'=m∧pos'=pos∧jm m p q 2=false∨0≤v∧jm m p q 2=true)∧
   cQ ((bx c rip fl m heap brk inp pos out clk seed st cd ft wh,p,q,()),())=some ((bx c rip fl m' heap brk inp pos' out clk seed st cd ft wh,v,()),())∧
   bf ((p,q,()),bi c rip fl heap brk inp pos out clk seed st cd ft wh,m,())=some (v,bi c rip fl heap brk inp pos' out clk seed st cd ft wh,m',()):=by
 unfold cQ bf
 dsimp only[bx,bi,p5,p6,p7,d7,d8,cp6]
 rw[ly hm.r,ag,lr hm.r,ag]
 dsimp only
 cases hs:jm m p q 2 with
 |false=>
  rw[du,cZ,cZ]
  exact⟨m,pos,-14,hm,h2,h3,by unfold I64;omega,.inl ⟨rfl,rfl,rfl,rfl⟩,rfl,rfl⟩
 |true=>
  obtain⟨s1,s2,s3,s4,s5⟩:=pY hm.r hs
  obtain⟨n,hn⟩:∃n:Nat,(n:Int)=fA q ((inp.length:Int)-pos):=by
   obtain⟨n,hn⟩:=Int.eq_ofNat_of_zero_le (show 0≤fA q ((inp.length:Int)-pos)by unfold fA;split<;>omega)
   exact⟨n,hn.symm⟩
  have hnq:(n:Int)≤q∧(n:Int)≤inp.length-pos:=by rw[hn];unfold fA;split<;>omega
  obtain⟨k,rfl⟩:=Int.eq_ofNat_of_zero_le h2
  have e0:aJ .i64 16384 p=16384+p:=bb (by omega) (by omega)
  simp only[bm,eQ,ar,f9 (a:=(inp.length:Int)) (b:=(k:Int)) (by omega) (by omega),←hn,bb (a:=(k:Int)) (b:=(n:Int)) (by omega) (by omega),e0]
  rw[aa (gZ (by omega) (by omega)),aa (gZ (by omega) (by omega)),aa (gZ (by omega) (by omega)),aa (gZ (by omega) (by omega))]
  have hl:(fd (dW inp ((k:Int)+(n:Int))) (k:Int)).length=n:=by unfold fd dW;rw[List.length_drop,List.length_take];omega
  have hok:∀j,j<(fd (dW inp ((k:Int)+(n:Int))) (k:Int)).length→¬fnd m (16384+p+(j:Nat))<0:=fun j hj=>s5 j (by omega)
  obtain⟨x,hx1,hx2⟩:=put_ex m hm (16384+p) _ (by unfold I64;omega) (by rw[hl];omega) hok
  obtain⟨y,hy1,hy2⟩:=lay_ex m hm (16384+p) _ (by unfold I64;omega) (by rw[hl];omega) hok
  obtain rfl:=hx2.unique hy2
  rw[hx1,ag,hy1,ag]
  exact⟨x,(k:Int)+n,n,hx2.memT hm,by omega,by omega,by unfold I64;omega,.inr ⟨by omega,trivial⟩,rfl,rfl⟩
theorem qR (hm:MemT m)(h1:(out.length:Int)≤512)(p q:Int):
  ∃(out':List UInt8) (v:Int),(out'.length:Int)≤512∧I64 v∧(v<0∧out'=out∧(jm m p q 1=false→v= -14)∨0≤v∧jm m p q 1=true)∧
   cw ((bx c rip fl m heap brk inp pos out clk seed st cd ft wh,p,q,()),())=some ((bx c rip fl m heap brk inp pos out' clk seed st cd ft wh,v,()),())∧
   aR ((p,q,()),bi c rip fl heap brk inp pos out clk seed st cd ft wh,m,())=some (v,bi c rip fl heap brk inp pos out' clk seed st cd ft wh,m,()):=by
 unfold cw aR
 dsimp only[bx,bi,p7,p8,d8,d9,cp7,cp8]
 rw[ly hm.r,ag,lr hm.r,ag]
 dsimp only
 cases hs:jm m p q 1 with
 |false=>
  rw[du,cZ,cZ]
  exact⟨out,-14,h1,by unfold I64;omega,.inl ⟨by decide,rfl,fun _=>rfl⟩,rfl,rfl⟩
 |true=>
  obtain⟨s1,s2,s3,s4,s5⟩:=pY hm.r hs
  obtain⟨k,rfl⟩:=Int.eq_ofNat_of_zero_le s3
  have e0:aJ .i64 16384 p=16384+p:=bb (by omega) (by omega)
  simp only[bm,eQ,ar,e0,bb (a:=(out.length:Int)) (b:=(k:Int)) (by omega) (by omega),f9 (a:=512) (b:=(out.length:Int)) (by omega) (by omega)]
  by_cases hlt:512<(out.length:Int)+k
  ·rw[aa (eR (by omega)),aa (eR hlt)]
   exact⟨out,-28,h1,by unfold I64;omega,.inl ⟨by decide,rfl,fun h=>by cases h⟩,rfl,rfl⟩
  ·rw[af (eP (by omega)),af (eP hlt)]
   rw[ud m hm.r (16384+p) k (by omega) (by unfold I64;omega) (fun j hj=>s5 j (by omega)),ag,pv m hm.r (16384+p) k (by omega) (by unfold I64;omega) (fun j hj=>s5 j (by omega)),ag]
   dsimp only
   have hl:(fg ((List.range k).map fun j=>gT m (16384+p+(j:Nat)))).length=k:=by rw[kS];simp
   rw[aa (dA (by rw[hl];omega)),aa (dA (by rw[hl];omega))]
   exact⟨_,k,by unfold dN;rw[List.length_append,hl];omega,by unfold I64;omega,.inr ⟨by omega,trivial⟩,rfl,rfl⟩
structure BoxW (m:List Page)(heap brk:Int)(inp:List UInt8)(pos:Int)(out:List UInt8)(clk seed:Int):Prop where
 m:MemT m
 h1:512≤heap
 h2:heap≤3584
 b1:heap≤brk
 b2:brk≤3584
 i1:(inp.length:Int)≤1024
 p1:0≤pos
 p2:pos≤(inp.length:Int)
 o1:(out.length:Int)≤512
 c1:0≤clk
 c2:clk≤1000000
 s1:0≤seed
 s2:seed≤2147483647
theorem qS {v:Int}(h:I64 v):aC ((v,4,()),())=some (fD v 4,())∧bj ((v,4,()),())=some (fD v 4,()):=⟨iI (k:=4) h rfl,zero_eq v 4 rfl⟩
theorem om (hg:fK c)(hB:BoxW m heap brk inp pos out clk seed)(n:Int):
  ∃(m':List Page) (brk' pos':Int) (out':List UInt8) (clk' seed' v:Int),BoxW m' heap brk' inp pos' out' clk' seed'∧I64 v∧
   (0≤v∨m'=m∧brk'=brk∧pos'=pos∧out'=out∧clk'=clk∧seed'=seed)∧
   b6 ((bx c rip fl m heap brk inp pos out clk seed st cd ft wh,n,()),())=some ((bx c rip fl m' heap brk' inp pos' out' clk' seed' st cd ft wh,v,()),())∧
   bG ((n,()),bi c rip fl heap brk inp pos out clk seed st cd ft wh,m,())=some (v,bi c rip fl heap brk' inp pos' out' clk' seed' st cd ft wh,m',()):=by
 obtain⟨hm,a1,a2,a3,a4,a5,a6,a7,a8,a9,a10,a11,a12⟩:=hB
 unfold b6 bG
 dsimp only
 rw[(qS (hg 7)).1,ag,(qS (hg 6)).1,ag,jY,ag]
 dsimp only
 rw[show decide ((16:Int)≤7∧(7:Int)≤19)=false from rfl,eQ,(qS (hg 7)).2,ag,jY,ag]
 dsimp only
 rw[show decide ((16:Int)≤6∧(6:Int)≤19)=false from rfl,eQ,(qS (hg 6)).2,ag]
 by_cases n1:n=1
 ·obtain⟨m',pos',v,b1,b2,b3,b4,b5,e1,e2⟩:=se (c:=c) (rip:=rip) (fl:=fl) (heap:=heap) (brk:=brk) (out:=out) (clk:=clk) (seed:=seed) (st:=st) (cd:=cd) (ft:=ft) (wh:=wh) hm a5 a6 a7 (fD (rg c 7) 4) (fD (rg c 6) 4)
  rw[aa (fe n1),aa (fe n1)]
  refine⟨m',brk,pos',out,clk,seed,v,⟨b1,a1,a2,a3,a4,a5,b2,b3,a8,a9,a10,a11,a12⟩,b4,?_,?_,?_⟩
  ·rcases b5 with ⟨_,g1,g2,_⟩|⟨g,_⟩
   ·exact .inr ⟨g1,rfl,g2,rfl,rfl,rfl⟩
   ·exact .inl g
  ·exact(congrArg (fun z=>bnd z fun x4=>some x4) e1).trans rfl
  ·exact(congrArg (fun z=>bnd z _) e2).trans rfl
 rw[af (eU n1),af (eU n1)]
 by_cases n2:n=2
 ·obtain⟨out',v,b1,b2,b3,e1,e2⟩:=qR (c:=c) (rip:=rip) (fl:=fl) (heap:=heap) (brk:=brk) (inp:=inp) (pos:=pos) (clk:=clk) (seed:=seed) (st:=st) (cd:=cd) (ft:=ft) (wh:=wh) hm a8 (fD (rg c 7) 4) (fD (rg c 6) 4)
  rw[aa (fe n2),aa (fe n2)]
  refine⟨m,brk,pos,out',clk,seed,v,⟨hm,a1,a2,a3,a4,a5,a6,a7,b1,a9,a10,a11,a12⟩,b2,?_,?_,?_⟩
  ·rcases b3 with ⟨_,g1,_⟩|⟨g,_⟩
   ·exact .inr ⟨rfl,rfl,rfl,g1,rfl,rfl⟩
   ·exact .inl g
  ·exact(congrArg (fun z=>bnd z fun x4=>some x4) e1).trans rfl
  ·exact(congrArg (fun z=>bnd z _) e2).trans rfl
 rw[af (eU n2),af (eU n2)]
 by_cases n3:n=3
 ·rw[aa (fe n3),aa (fe n3),iH _ 4 (by decide) (by decide),ag,oX _ 4 (by decide) (by decide),ag]
  obtain⟨m',brk',v,b1,b2,b3,b4,e1,e2⟩:=qi (c:=c) (rip:=rip) (fl:=fl) (inp:=inp) (pos:=pos) (out:=out) (clk:=clk) (seed:=seed) (st:=st) (cd:=cd) (ft:=ft) (wh:=wh) hm a1 a3 a4 (sx (8*4-1:Int).toNat (fD (rg c 7) 4))
  refine⟨m',brk',pos,out,clk,seed,v,⟨b1,a1,a2,b2,b3,a5,a6,a7,a8,a9,a10,a11,a12⟩,?_,?_,?_,?_⟩
  ·unfold I64;rcases b4 with ⟨g,_,_⟩|⟨g,_⟩<;>omega
  ·rcases b4 with ⟨_,g1,g2⟩|⟨g,_⟩
   ·exact .inr ⟨g1,g2,rfl,rfl,rfl,rfl⟩
   ·exact .inl (by omega)
  ·exact(congrArg (fun z=>bnd z fun x4=>some x4) e1).trans rfl
  ·exact(congrArg (fun z=>bnd z _) e2).trans rfl
 rw[af (eU n3),af (eU n3)]
 by_cases n4:n=4
 ·rw[aa (fe n4),aa (fe n4)]
  have e1:aJ .i64 clk 1=clk+1:=bb (by omega) (by omega)
  dsimp only[bx,bi,p8,p9,d9,d10,cp8,cp9]
  rw[e1]
  exact⟨m,brk,pos,out,fA (clk+1) 1000000,seed,clk,⟨hm,a1,a2,a3,a4,a5,a6,a7,a8,by unfold fA;split<;>omega,by unfold fA;split<;>omega,a11,a12⟩,by unfold I64;omega,.inl a9,rfl,rfl⟩
 rw[af (eU n4),af (eU n4)]
 by_cases n5:n=5
 ·rw[aa (fe n5),aa (fe n5)]
  have e1:fE .i64 seed 1103515245=seed*1103515245:=j9 (by omega) (by omega)
  have e2:fE .i64 1103515245 seed=seed*1103515245:=by rw[j9 (by omega) (by omega)];omega
  have e3:aJ .i64 (seed*1103515245) 12345=seed*1103515245+12345:=bb (by omega) (by omega)
  have e4:gN (seed*1103515245+12345) 2147483648=(seed*1103515245+12345)%2147483648:=mB (by omega)
  have e5:jq .i64 (seed*1103515245+12345) 2147483647=(seed*1103515245+12345)%2147483648:=pG _ 31 (by decide)
  have e8:sd .i64 ((seed*1103515245+12345)%2147483648) 65536=(seed*1103515245+12345)%2147483648/65536:=pT (by omega) (by omega) (by omega)
  have e9:rF .i64 ((seed*1103515245+12345)%2147483648) 16=(seed*1103515245+12345)%2147483648/65536:=by
   unfold rF
   rw[show(2:Int)^min (Int.toNat 16) IntKind.i64.bits=65536 from rfl,Int.fdiv_eq_ediv_of_nonneg _ (by decide)]
  dsimp only[bx,bi,p9,p10,d10,d11,cp9,cp10]
  simp only[e1,e2,e3,e4,e5,e8,e9]
  exact⟨m,brk,pos,out,clk,(seed*1103515245+12345)%2147483648,(seed*1103515245+12345)%2147483648/65536,⟨hm,a1,a2,a3,a4,a5,a6,a7,a8,a9,a10,by omega,by omega⟩,by unfold I64;omega,.inl (by omega),rfl,rfl⟩
 rw[af (eU n5),af (eU n5)]
 exact⟨m,brk,pos,out,clk,seed,-38,⟨hm,a1,a2,a3,a4,a5,a6,a7,a8,a9,a10,a11,a12⟩,by unfold I64;omega,.inr ⟨rfl,rfl,rfl,rfl,rfl,rfl⟩,rfl,rfl⟩
end
theorem iand_lo (v:Int):jq .i64 (v%4294967296) 4064=jq .i64 v 4064:=by
 unfold jq
 congr 2
 rw[BitVec.toNat_and,BitVec.toNat_and]
 have e:∀z:Int,(BitVec.ofInt IntKind.i64.bits z).toNat=(z%18446744073709551616).toNat:=kk
 have e2:(BitVec.ofInt IntKind.i64.bits 4064).toNat=4064:=by decide
 rw[e (v%4294967296),e v,e2]
 obtain⟨A,hA⟩:∃A,A=(v%18446744073709551616).toNat:=⟨_,rfl⟩
 have hB:(v%4294967296%18446744073709551616).toNat=A%4294967296:=by omega
 rw[hB,←hA]
 have h:=Nat.and_mod_two_pow (a:=A) (b:=4064) (n:=32)
 have hle:A&&& 4064≤4064:=Nat.and_le_right
 have h1:(A&&& 4064)%2^32=A&&& 4064:=Nat.mod_eq_of_lt (by omega)
 have h2:A%2^32=A%4294967296:=rfl
 have h3:(4064:Nat)%2^32=4064:=rfl
 rw[h1,h2,h3]at h
 exact h.symm
def bk (v:Int):Int:=aJ .i64 16384 (jq .i64 v 4064)
theorem qr (v:Int):c9 ((v,4064,()),())=some (bk v,()):=by
 unfold c9
 dsimp only
 rw[bO,ag]
 dsimp only
 rw[af (by decide)]
 rfl
theorem qJ {v:Int}(hv:I64 v):dg ((v,4064,()),())=some (bk v,()):=by
 unfold dg
 dsimp only
 rw[dS,bO,ag]
 dsimp only
 rw[af (by decide),(qS hv).1,ag]
 dsimp only
 rw[show fD v 4=v%4294967296 from rfl,iand_lo]
 rfl
section
variable {c:List Int}{rip fl:Int}{m:List Page}{heap brk:Int}{inp:List UInt8}{pos:Int}{out:List UInt8}{clk seed st cd ft wh:Int}
theorem qK (hg:fK c)(hB:BoxW m heap brk inp pos out clk seed)(n:Int):
  ∃(c':List Int) (rip':Int) (m':List Page) (brk' pos':Int) (out':List UInt8) (clk' seed' st' cd' ft' wh':Int),fK c'∧BoxW m' heap brk' inp pos' out' clk' seed'∧
   (st'=st∧cd'=cd∧ft'=ft∧wh'=wh∧rip'=bk (fC m (rg c 4) 8).1∨st'=2∧ -2147483648≤cd'∧cd'≤2147483647∧ft'=ft∧wh'=wh∧rip'=rip∨st'=3∧cd'=cd∧(ft'=13∨ft'=14)∧wh'=rg c 4∧rip'=rip)∧
   cu ((bx c rip fl m heap brk inp pos out clk seed st cd ft wh,n,()),())=some (bx c' rip' fl m' heap brk' inp pos' out' clk' seed' st' cd' ft' wh',())∧
   bX ((n,()),bi c rip fl heap brk inp pos out clk seed st cd ft wh,m,())=some ((),bi c' rip' fl heap brk' inp pos' out' clk' seed' st' cd' ft' wh',m',()):=by
 unfold cu bX
 dsimp only
 by_cases n0:n=0
 ·rw[aa (fe n0),aa (fe n0),iH _ 4 (by decide) (by decide),ag,oX _ 4 (by decide) (by decide),ag]
  have hb:=sx_bdA 31 (by decide) (aD c 7 (au .i))
  exact⟨c,rip,m,brk,pos,out,clk,seed,2,sx 31 (aD c 7 (au .i)),ft,wh,hg,hB,.inr (.inl ⟨rfl,by omega,by omega,rfl,rfl,rfl⟩),rfl,rfl⟩
 rw[af (eU n0),af (eU n0)]
 have l1:cf (((m,()),aD c 4 (au .i),8,()),())=some (((fC m (rg c 4) 8).1,(fC m (rg c 4) 8).2,()),()):=n7 m hB.m.r (rg c 4) 8 (by decide) (by decide) (hg 4)
 have l2:aY (((m,()),aD c 4 (au .i),8,()),())=some (((fC m (rg c 4) 8).1,(fC m (rg c 4) 8).2,()),()):=ng m hB.m.r (rg c 4) 8 (by decide) (by decide) (hg 4)
 rw[l1,ag,l2,ag]
 dsimp only
 by_cases hk:(fC m (rg c 4) 8).2=0
 ·rw[fe hk,bm,eQ,eQ]
  obtain⟨m',brk',pos',out',clk',seed',v,b1,b2,_,e1,e2⟩:=om (rip:=rip) (fl:=fl) (st:=st) (cd:=cd) (ft:=ft) (wh:=wh) hg hB n
  have hset:=rI (g:=c) (rip:=rip) (fl:=fl) (r:=0) (v:=v) (n:=4) hg b2 rfl (.inl ⟨by decide,by decide⟩)
  have hset:cA (((c,rip,fl,()),0,4,v,()),())=some ((setM c 0 4 v,rip,fl,()),()):=hset
  rw[e1,ag,e2,ag]
  dsimp only[bx,bi]
  rw[hset,ag,jY,ag]
  dsimp only
  rw[qv,ag,show decide ((16:Int)≤0∧(0:Int)≤19)=false from rfl,eQ,(qS b2).2,ag,qr,ag,qJ (rO m (rg c 4) 8),ag]
  refine⟨setA (setM c 0 4 v) 4 (aJ .i64 (rg (setM c 0 4 v) 4) 8),bk (fC m (rg c 4) 8).1,m',brk',pos',out',clk',seed',st,cd,ft,wh,(setM_ok hg b2 rfl).setA (c7 _),b1,.inl ⟨rfl,rfl,rfl,rfl,rfl⟩,rfl,rfl⟩
 ·rw[eU hk,du,cZ,cZ]
  have hv:(fC m (rg c 4) 8).2=13∨(fC m (rg c 4) 8).2=14:=by
   unfold fC at hk⊢
   split at hk
   ·exact absurd rfl hk
   ·rename_i h
    rw[if_neg h]
    rcases jL m (rg c 4) 1 8 0 with g|g|g
    ·exact absurd g h
    ·exact .inl g
    ·exact .inr g
  exact⟨c,rip,m,brk,pos,out,clk,seed,3,cd,(fC m (rg c 4) 8).2,rg c 4,hg,hB,.inr (.inr ⟨rfl,rfl,hv,rfl,rfl⟩),rfl,rfl⟩
theorem boxW_of (h:pq fl m heap brk inp pos out clk seed st cd ft wh):BoxW m heap brk inp pos out clk seed:=by
 unfold pq at h
 obtain⟨_,a2,a3,a4,a5,a6,a7,a8,a9,a10,a11,a12,a13,a14,_⟩:=h
 exact⟨memOK_t a2,a3,a4,a5,a6,a7,a8,a9,a10,a11,a12,a13,a14⟩
def askR (fl:Int)(m:List Page)(heap brk:Int)(inp:List UInt8)(pos:Int)(out:List UInt8)(clk seed st cd ft wh n:Int):Int:=
 if pq fl m heap brk inp pos out clk seed st cd ft wh then(if 0≤n∧n≤7 then(if st=1 then 0 else 35)else 4)else 1
theorem sO (hf:I64 fl)(hc:I64 cd)(hm:m.length≤1048576)(n:Int):
  dl ((bx c rip fl m heap brk inp pos out clk seed st cd ft wh,n,()),())=some (askR fl m heap brk inp pos out clk seed st cd ft wh n,())∧
  bq ((bx c rip fl m heap brk inp pos out clk seed st cd ft wh,n,()),())=some (askR fl m heap brk inp pos out clk seed st cd ft wh n,()):=by
 unfold dl bq askR
 dsimp only[bx,p11]
 rw[si hc hf hm,sK hc hm,ag,ag]
 dsimp only
 by_cases h:pq fl m heap brk inp pos out clk seed st cd ft wh
 ·rw[decide_eq_true h,bm,eQ,eQ,if_pos h,dS,bO,ag]
  dsimp only
  by_cases h2:0≤n∧n≤7
  ·rw[decide_eq_true h2,bm,eQ,if_pos h2]
   by_cases h3:st=1
   ·rw[fe h3,bm,eQ,if_pos h3];exact⟨rfl,rfl⟩
   ·rw[eU h3,du,cZ,if_neg h3];exact⟨rfl,rfl⟩
  ·rw[decide_eq_false h2,du,cZ,if_neg h2];exact⟨rfl,rfl⟩
 ·rw[decide_eq_false h,du,cZ,cZ,if_neg h];exact⟨rfl,rfl⟩
theorem r7 (hm:m.length≤1048576):cB ((bx c rip fl m heap brk inp pos out clk seed st cd ft wh,()),())=some (bx c rip fl m heap brk inp pos out clk seed st cd ft wh,()):=by
 unfold cB
 dsimp only[bx]
 rw[uk m hm,ag]
theorem py (hm:m.length≤1048576):b9 ((bx c rip fl m heap brk inp pos out clk seed st cd ft wh,()),())=some (bi c rip fl heap brk inp pos out clk seed st cd ft wh,m,()):=by
 unfold b9
 dsimp only[bx]
 rw[oz m hm,ag]
theorem qf (hg:fK c)(hf:I64 fl)(hc:I64 cd)(hm:m.length≤1048576)(n:Int):
  ∃(c':List Int) (rip' fl':Int) (m':List Page) (heap' brk':Int) (inp':List UInt8) (pos':Int) (out':List UInt8) (clk' seed' st' cd' ft' wh' k':Int),m'.length≤1048576∧
   dM ((bx c rip fl m heap brk inp pos out clk seed st cd ft wh,n,()),())=some ((bx c' rip' fl' m' heap' brk' inp' pos' out' clk' seed' st' cd' ft' wh',k',()),())∧
   cY ((bx c rip fl m heap brk inp pos out clk seed st cd ft wh,n,()),())=some ((bi c' rip' fl' heap' brk' inp' pos' out' clk' seed' st' cd' ft' wh',k',()),m',()):=by
 obtain⟨a1,a2⟩:=sO (c:=c) (rip:=rip) (heap:=heap) (brk:=brk) (inp:=inp) (pos:=pos) (out:=out) (clk:=clk) (seed:=seed) (st:=st) (ft:=ft) (wh:=wh) hf hc hm n
 unfold dM cY
 rw[a1,ag,a2,ag]
 dsimp only
 unfold askR
 by_cases h:pq fl m heap brk inp pos out clk seed st cd ft wh
 ·rw[if_pos h]
  by_cases h2:0≤n∧n≤7
  ·rw[if_pos h2]
   by_cases h3:st=1
   ·rw[if_pos h3,af (eU (by decide)),ag,af (eU (by decide)),fe rfl,bm,eQ,cZ,py hm,ag]
    obtain⟨c',rip',m',brk',pos',out',clk',seed',st',cd',ft',wh',b1,b2,_,e1,e2⟩:=qK (rip:=rip) (fl:=fl) (st:=st) (cd:=cd) (ft:=ft) (wh:=wh) hg (boxW_of h) n
    have hl:=b2.m.len
    rw[e1,ag,r7 (by omega),ag,e2,ag]
    exact⟨c',rip',fl,m',heap,brk',inp,pos',out',clk',seed',st',cd',ft',wh',0,by omega,rfl,rfl⟩
   ·rw[if_neg h3,af (eU (by decide)),ag,af (eU (by decide)),eU (by decide),du,cZ,eQ,fe rfl,cZ,r7 hm,ag,py hm,ag]
    exact⟨c,rip,fl,m,heap,brk,inp,pos,out,clk,seed,st,cd,ft,wh,35,hm,rfl,rfl⟩
  ·rw[if_neg h2,af (eU (by decide)),ag,fe rfl,cZ,af (eU (by decide)),af (eU (by decide))]
   exact⟨[],0,0,[],0,0,[],0,[],0,0,0,0,0,0,4,by simp,rfl,rfl⟩
 ·rw[if_neg h,fe rfl,cZ,ag,cZ,af (eU (by decide)),af (eU (by decide))]
  exact⟨[],0,0,[],0,0,[],0,[],0,0,0,0,0,0,1,by simp,rfl,rfl⟩
end
theorem qF (y:VTL.Ty [.agg [.arr .i 16,.int .i64,.int .i64,.list .page,.int .i64,.int .i64,.str,.int .i64,.str,.int .i64,.int .i64,.int .i64,.int .i64,.int .i64,.int .i64],.int .i64])
  (h:VTL.wf [.agg [.arr .i 16,.int .i64,.int .i64,.list .page,.int .i64,.int .i64,.str,.int .i64,.str,.int .i64,.int .i64,.int .i64,.int .i64,.int .i64,.int .i64],.int .i64] y):aT (y,())=some (true,()):=by
 obtain⟨⟨c,p,f,ms,heap,brk,inp,pos,out,clk,seed,st,cd,ft,wh,_⟩,n,_⟩:=y
 obtain⟨⟨⟨w0,w1⟩,_,w3,⟨w4,w5⟩,_,_,_,_,_,_,_,_,w11,_,_,_⟩,_,_⟩:=h
 have w0:c.length=16:=w0
 have w4:ms.length≤maxLen:=w4
 have hg:fK c:=regs_wf w1
 have hf:I64 f:=wf64 w3
 have hc:I64 cd:=wf64 w11
 unfold aT
 dsimp only
 obtain⟨r,e,hr⟩:=tX (c:=c) (rip:=p) (fl:=f) (heap:=heap) (brk:=brk) (inp:=inp) (pos:=pos) (out:=out) (clk:=clk) (seed:=seed) (st:=st) (cd:=cd) (ft:=ft) (wh:=wh) w4 (fun x hx=>(rf (w5 x hx)).2.2)
 dsimp only[bx]at e
 rw[e,ag]
 dsimp only
 by_cases h0:r<0
 ·rw[aa (eR h0)]
 rw[af (eP h0)]
 have hm:=hr (by omega)
 have hto:=tZ (rip:=p) (fl:=f) (heap:=heap) (brk:=brk) (inp:=inp) (pos:=pos) (out:=out) (clk:=clk) (seed:=seed) (st:=st) (cd:=cd) (ft:=ft) (wh:=wh) w0 hm
 obtain⟨c',rip',fl',m',heap',brk',inp',pos',out',clk',seed',st',cd',ft',wh',k',hm',e1,e2⟩:=qf (rip:=p) (heap:=heap) (brk:=brk) (inp:=inp) (pos:=pos) (out:=out) (clk:=clk) (seed:=seed) (st:=st) (ft:=ft) (wh:=wh) hg hf hc hm n
 have hq:=li (c:=c') (rip:=rip') (fl:=fl') (heap:=heap') (brk:=brk') (inp:=inp') (pos:=pos') (out:=out') (clk:=clk') (seed:=seed') (st:=st') (cd:=cd') (ft:=ft') (wh:=wh') hm'
 have hq0:=li (c:=c) (rip:=p) (fl:=f) (heap:=heap) (brk:=brk) (inp:=inp) (pos:=pos) (out:=out) (clk:=clk) (seed:=seed) (st:=st) (cd:=cd) (ft:=ft) (wh:=wh) hm
 have hmk:=lA (c:=c) (rip:=p) (fl:=f) (heap:=heap) (brk:=brk) (inp:=inp) (pos:=pos) (out:=out) (clk:=clk) (seed:=seed) (st:=st) (cd:=cd) (ft:=ft) (wh:=wh) (m:=ms) 1 (by decide) (by decide) (by omega)
 have hmk':=lA (c:=c') (rip:=rip') (fl:=fl') (heap:=heap') (brk:=brk') (inp:=inp') (pos:=pos') (out:=out') (clk:=clk') (seed:=seed') (st:=st') (cd:=cd') (ft:=ft') (wh:=wh') (m:=m') 1 (by decide) (by decide) (by omega)
 have hh:=qq (c:=c') (rip:=rip') (fl:=fl') (heap:=heap') (brk:=brk') (inp:=inp') (pos:=pos') (out:=out') (clk:=clk') (seed:=seed') (st:=st') (cd:=cd') (ft:=ft') (wh:=wh') 1 m'.length (by decide) (by decide) (by omega)
 have q1:ltI (1+3*(m'.length:Int)) 0=false:=eP (by omega)
 have q3:ltI (1+3*(ms.length:Int)) 0=false:=eP (by omega)
 have hcc:∀a:Int,eqI a a=true:=fun a=>fe rfl
 dsimp only[bx,bi]at hto e1 e2 hq hq0 hmk hmk' hh
 rw[hto,ag]
 dsimp only
 rw[e1,ag]
 simp only[ag,e2,hq,hq0,hcc,bm,eQ,hmk,hmk',hh,q1,q3]
end Go.Den.G
