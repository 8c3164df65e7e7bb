/- Theory for the proofs of this claim: see its last text. -/
import Derived.Test.YtlcacoglljcgeaaGreatFnTraceBox
import Derived.Test.YtlcacoglljcgeaaGreatDenF
import Derived.KernelRfl
import Derived.Laws.MathBits
import Derived.Test.YtlcacoglljcgeaaGreatPaTraceBox
namespace Go.Den.G
open Go.Den
set_option maxRecDepth 100000
structure AddInv (A B c0 i out c:Nat):Prop where
 lo:out<2^i
 hc:c<=1
 e:out+2^i*c=A%2^i+B%2^i+c0
structure SubInv (A B c0 i out c:Nat):Prop where
 lo:out<2^i
 hc:c<=1
 e:out+B%2^i+c0=A%2^i+2^i*c
theorem AddInv.init {A B c0:Nat}(h:c0<=1):AddInv A B c0 0 0 c0:=⟨by decide,h,by omega⟩
theorem SubInv.init {A B c0:Nat}(h:c0<=1):SubInv A B c0 0 0 c0:=⟨by decide,h,by omega⟩
theorem qk (A i:Nat):A/2^i%2=0\/A/2^i%2=1:=by omega
theorem AddInv.step {A B c0 i out c:Nat}(h:AddInv A B c0 i out c):
  AddInv A B c0 (i+1) (out+2^i*((A/2^i%2+B/2^i%2+c)%2)) ((A/2^i%2+B/2^i%2+c)/2):=by
 obtain⟨h1,h2,h3⟩:=h
 have hp:=Nat.two_pow_pos i
 have hx:=qk A i
 have hy:=qk B i
 have hc:c=0\/c=1:=by omega
 refine⟨?_,?_,?_⟩
 ·rw[Nat.pow_succ]
  rcases hx with hx|hx<;>rcases hy with hy|hy<;>rcases hc with hc|hc<;>rw[hx,hy,hc]<;>simp only[Nat.reduceAdd,Nat.reduceMod,Nat.mul_zero,Nat.mul_one]<;>omega
 ·omega
 ·rw[Nat.mod_pow_succ,Nat.mod_pow_succ,Nat.pow_succ]
  generalize A%2^i=a at*
  generalize B%2^i=b at*
  rcases hx with hx|hx<;>rcases hy with hy|hy<;>rcases hc with hc|hc<;>rw[hc]at h3<;>rw[hx,hy,hc]<;>simp only[Nat.reduceAdd,Nat.reduceMod,Nat.reduceDiv,Nat.mul_zero,Nat.mul_one]at* <;>omega
theorem SubInv.step {A B c0 i out c:Nat}(h:SubInv A B c0 i out c):
  SubInv A B c0 (i+1) (out+2^i*((A/2^i%2+2-B/2^i%2-c)%2)) (if A/2^i%2+2-B/2^i%2-c<2 then 1 else 0):=by
 obtain⟨h1,h2,h3⟩:=h
 have hp:=Nat.two_pow_pos i
 have hx:=qk A i
 have hy:=qk B i
 have hc:c=0\/c=1:=by omega
 refine⟨?_,?_,?_⟩
 ·rw[Nat.pow_succ]
  rcases hx with hx|hx<;>rcases hy with hy|hy<;>rcases hc with hc|hc<;>rw[hx,hy,hc]<;>simp only[Nat.reduceAdd,Nat.reduceSub,Nat.reduceMod,Nat.mul_zero,Nat.mul_one]<;>omega
 ·split<;>omega
 ·rw[Nat.mod_pow_succ,Nat.mod_pow_succ,Nat.pow_succ]
  generalize A%2^i=a at*
  generalize B%2^i=b at*
  rcases hx with hx|hx<;>rcases hy with hy|hy<;>rcases hc with hc|hc<;>rw[hc]at h3<;>rw[hx,hy,hc]<;>simp only[Nat.reduceAdd,Nat.reduceSub,Nat.reduceMod,Nat.mul_zero,Nat.mul_one,Nat.reduceLT,if_true,if_false]at* <;>omega
theorem AddInv.fin {A B c0 i out c:Nat}(h:AddInv A B c0 i out c):out=(A%2^i+B%2^i+c0)%2^i/\c=(A%2^i+B%2^i+c0)/2^i:=by
 obtain⟨h1,h2,h3⟩:=h
 rw[<-h3]
 constructor
 ·rw[Nat.add_mul_mod_self_left,Nat.mod_eq_of_lt h1]
 ·rw[Nat.add_mul_div_left _ _ (Nat.two_pow_pos i),Nat.div_eq_of_lt h1,Nat.zero_add]
theorem SubInv.fin {A B c0 i out c:Nat}(h:SubInv A B c0 i out c):out%2^i=(A%2^i+2^i-B%2^i-c0)%2^i/\c=(if A%2^i<B%2^i+c0 then 1 else 0):=by
 obtain⟨h1,h2,h3⟩:=h
 have hp:=Nat.two_pow_pos i
 have hA:=Nat.mod_lt A hp
 have hB:=Nat.mod_lt B hp
 generalize A%2^i=a at*
 generalize B%2^i=b at*
 generalize 2^i=P at*
 have hc:c=0\/c=1:=by omega
 rcases hc with rfl|rfl
 ·rw[Nat.mul_zero]at h3
  constructor
  ·rw[show a+P-b-c0=out+P by omega,Nat.add_mod_right]
  ·rw[iN]
 ·rw[Nat.mul_one]at h3
  constructor
  ·rw[show a+P-b-c0=out by omega]
  ·rw[iP]
structure WideInv (a b k:Nat)(h l:Int):Prop where
 h0:0<=h
 l0:0<=l
 hl:l<18446744073709551616
 e:h*18446744073709551616+l=((a*(b/2^k):Nat):Int)
theorem WideInv.init {a b:Nat}(hb:b<18446744073709551616):WideInv a b 64 0 0:=⟨by omega,by omega,by omega,by rw[Nat.div_eq_of_lt hb];rfl⟩
theorem wk (b k:Nat):b/2^k=2*(b/2^(k+1))+b/2^k%2:=by
 rw[Nat.pow_succ,<-Nat.div_div_eq_div_mul]
 omega
theorem Il (a b k:Nat):a*(b/2^k)=2*(a*(b/2^(k+1)))+a*(b/2^k%2):=by
 have h4:a*(b/2^k)=a*(2*(b/2^(k+1))+b/2^k%2):=congrArg _ (wk b k)
 rw[h4,Nat.mul_add,Nat.mul_left_comm]
theorem Fa {a b:Nat}(k:Nat)(ha:a<18446744073709551616)(hb:b<18446744073709551616):((a*(b/2^k):Nat):Int)<340282366920938463463374607431768211456:=by
 have:a*(b/2^k)<18446744073709551616*18446744073709551616:=Nat.mul_lt_mul'' ha (Nat.lt_of_le_of_lt (Nat.div_le_self _ _) hb)
 exact Int.ofNat_lt.2 this
theorem wide0I {h l p p1:Int}(l0:0<=l)(h0:0<=h)(h2:h*18446744073709551616+l=p1)(e:p=2*p1+0)(h1:l<18446744073709551616)(hq:p<340282366920938463463374607431768211456):
  (h*2+l/9223372036854775808)%18446744073709551616*18446744073709551616+l*2%18446744073709551616=p:=by omega
theorem wide1I {h l a p p1 l' h':Int}(l0:0<=l)(h0:0<=h)(a0:0<=a)(h2:h*18446744073709551616+l=p1)(e:p=2*p1+a)(h1:l<18446744073709551616)(ha:a<18446744073709551616)(hq:p<340282366920938463463374607431768211456)
  (e1:h'=(h*2+l/9223372036854775808)%18446744073709551616) (e2:l'=l*2%18446744073709551616):
  ((l'+a)%18446744073709551616<l'->(h'+1)%18446744073709551616*18446744073709551616+(l'+a)%18446744073709551616=p)/\(¬(l'+a)%18446744073709551616<l'->h'*18446744073709551616+(l'+a)%18446744073709551616=p):=by constructor<;>intro g<;>omega
theorem WideInv.step0 {a b k:Nat}{h l:Int}(ha:a<18446744073709551616)(hb:b<18446744073709551616)(H:WideInv a b (k+1) h l)(h0:b/2^k%2=0):
  WideInv a b k ((h*2+l/9223372036854775808)%18446744073709551616) (l*2%18446744073709551616):=by
 obtain⟨h1,h3,h4,h2⟩:=H
 have hq:=Fa k ha hb
 have e:=Il a b k
 rw[h0,Nat.mul_zero]at e
 exact⟨by omega,by omega,by omega,wide0I h3 h1 h2 (by omega) h4 hq⟩
theorem WideInv.step1 {a b k:Nat}{h l h' l':Int}(ha:a<18446744073709551616)(hb:b<18446744073709551616)(H:WideInv a b (k+1) h l)(h0:b/2^k%2=1)
  (e1:h'=(h*2+l/9223372036854775808)%18446744073709551616) (e2:l'=l*2%18446744073709551616):
  ((l'+a)%18446744073709551616<l'->WideInv a b k ((h'+1)%18446744073709551616) ((l'+a)%18446744073709551616))/\(¬(l'+a)%18446744073709551616<l'->WideInv a b k h' ((l'+a)%18446744073709551616)):=by
 obtain⟨h1,h3,h4,h2⟩:=H
 have hq:=Fa k ha hb
 have e:=Il a b k
 rw[h0,Nat.mul_one]at e
 have:=wide1I (h:=h) (l:=l) (a:=a) h3 h1 (by omega) h2 (by omega) h4 (by omega) hq e1 e2
 exact⟨fun g=>⟨by omega,by omega,by omega,this.1 g⟩,fun g=>⟨by omega,by omega,by omega,this.2 g⟩⟩
theorem WideInv.fin {a b:Nat}{h l:Int}(H:WideInv a b 0 h l):h=((a*b/18446744073709551616:Nat):Int)/\l=((a*b%18446744073709551616:Nat):Int):=by
 obtain⟨h1,h3,h4,h2⟩:=H
 rw[Nat.pow_zero,Nat.div_one]at h2
 rw[Int.natCast_ediv,Int.natCast_emod]
 obtain⟨p,hp⟩:∃p,p=a*b:=⟨_,rfl⟩
 rw[<-hp]at h2|-
 omega
structure QuoInv (hi lo d k q r:Nat):Prop where
 lt:r<d
 e:hi*2^(64-k)+lo/2^k=q*d+r
theorem QuoInv.init {hi lo d:Nat}(h:hi<d)(hl:lo<18446744073709551616):QuoInv hi lo d 64 0 hi:=⟨h,by rw[Nat.div_eq_of_lt hl];simp⟩
theorem QuoInv.step {hi lo d k q r:Nat}(hk:k<64)(H:QuoInv hi lo d (k+1) q r):
  (r*2+lo/2^k%2<d->QuoInv hi lo d k (q*2) (r*2+lo/2^k%2))/\(d<=r*2+lo/2^k%2->QuoInv hi lo d k (q*2+1) (r*2+lo/2^k%2-d)):=by
 obtain⟨h1,h2⟩:=H
 have hs:=wk lo k
 have e1:hi*2^(64-k)=2*(hi*2^(64-(k+1))):=by
  rw[show 64-k=64-(k+1)+1 by omega,Nat.pow_succ]
  generalize 2^(64-(k+1))=P
  rw[<-Nat.mul_assoc,Nat.mul_comm]
 have e2:hi*2^(64-k)+lo/2^k=q*2*d+(r*2+lo/2^k%2):=by
  rw[Nat.mul_right_comm,e1]
  generalize hi*2^(64-(k+1))=p at*
  generalize q*d=s at*
  omega
 refine⟨fun h=>⟨h,e2⟩,fun h=>⟨by omega,?_⟩⟩
 rw[e2,Nat.add_mul,Nat.one_mul]
 generalize q*2*d=s at*
 omega
theorem QuoInv.fin {hi lo d q r:Nat}(H:QuoInv hi lo d 0 q r):q=(hi*18446744073709551616+lo)/d/\r=(hi*18446744073709551616+lo)%d:=by
 obtain⟨h1,h2⟩:=H
 have e:hi*18446744073709551616+lo=r+d*q:=by
  rw[Nat.mul_comm d q,Nat.add_comm r,<-h2]
  simp
 rw[e]
 constructor
 ·rw[Nat.add_mul_div_left _ _ (by omega),Nat.div_eq_of_lt h1,Nat.zero_add]
 ·rw[Nat.add_mul_mod_self_left,Nat.mod_eq_of_lt h1]
set_option maxRecDepth 100000
theorem CA (v:Int)(k:Nat)(hk:k<=63):aO ((v,(k:Int),()),())=some (((uns v/2^k%2:Nat):Int),()):=by
 rw[mF _ _ (by omega) (by omega),Int.toNat_natCast,<-bt]
 simp
theorem Fj (v:Int)(k:Nat):eqI ((uns v/2^k%2:Nat):Int) 1=l7 v k:=by
 rw[jd,Nat.testBit_eq_decide_div_mod_eq]
 unfold eqI
 rw[Bool.eq_iff_iff,decide_eq_true_eq,decide_eq_true_eq]
 omega
theorem lm (b:Bool)(k:Int):ce ((b,k,()),())=some (if b=true then k else 0,()):=by
 unfold ce
 cases b<;>rfl
theorem wE (b:Bool):fo ((b,()),())=some (if b=true then 1 else 0,()):=by
 unfold fo
 cases b<;>rfl
def wU (u:Nat):Nat->Nat
 |0=>0
 |k+1=>wU u k+u/2^k%2
theorem GI (u k:Nat):wU u k<=k:=by
 induction k with
 |zero=>exact Nat.le_refl 0
 |succ k ih=>unfold wU;omega
theorem G6 (u:Nat)(h:u<256):parL.getD u false=((u%2+u/2%2+u/4%2+u/8%2+u/16%2+u/32%2+u/64%2+u/128%2)%2==0):=by
 unfold parL
 rw[List.getD_eq_getElem?_getD,List.getElem?_map,List.getElem?_range h]
 rfl
theorem mr (u k:Nat)(hk:k<8):u%256/2^k%2=u/2^k%2:=by
 have h:256=2^k*2^(8-k):=by rw[<-Nat.pow_add,show k+(8-k)=8 by omega]
 have h2:2^(8-k)=2*2^(7-k):=by rw[show 8-k=7-k+1 by omega,Nat.pow_succ,Nat.mul_comm]
 rw[h,Nat.mod_mul_right_div_self,h2,Nat.mod_mul_right_mod]
theorem Ea (v:Int):eqI (fw ((wU (uns v) 8:Nat):Int) 2) 0=G5 v:=by
 unfold G5
 rw[G6 _ (Nat.mod_lt _ (by decide)),dG]
 generalize uns v=u
 have b0:=mr u 0 (by decide)
 have b1:=mr u 1 (by decide)
 have b2:=mr u 2 (by decide)
 have b3:=mr u 3 (by decide)
 have b4:=mr u 4 (by decide)
 have b5:=mr u 5 (by decide)
 have b6:=mr u 6 (by decide)
 have b7:=mr u 7 (by decide)
 rw[show(2:Nat)^0=1 from rfl,Nat.div_one,Nat.div_one]at b0
 rw[show(2:Nat)^1=2 from rfl]at b1
 rw[show(2:Nat)^2=4 from rfl]at b2
 rw[show(2:Nat)^3=8 from rfl]at b3
 rw[show(2:Nat)^4=16 from rfl]at b4
 rw[show(2:Nat)^5=32 from rfl]at b5
 rw[show(2:Nat)^6=64 from rfl]at b6
 rw[show(2:Nat)^7=128 from rfl]at b7
 rw[b0,b1,b2,b3,b4,b5,b6,b7]
 have e:wU u 8=u%2+u/2%2+u/4%2+u/8%2+u/16%2+u/32%2+u/64%2+u/128%2:=by
  show 0+u/2^0%2+u/2^1%2+u/2^2%2+u/2^3%2+u/2^4%2+u/2^5%2+u/2^6%2+u/2^7%2=_
  rw[Nat.zero_add,show(2:Nat)^0=1 from rfl,Nat.div_one]
 rw[e]
 generalize u%2+u/2%2+u/4%2+u/8%2+u/16%2+u/32%2+u/64%2+u/128%2=t
 unfold eqI
 rw[Bool.eq_iff_iff,decide_eq_true_eq,beq_iff_eq]
 omega
theorem oH {v:Int}{n:Nat}(hn:cl (n:Int)=true)(hv:I64 v):dl (((n:Int),v,()),())=some (xA n v,()):=by
 obtain⟨h1,h8⟩:=dL hn
 unfold dl
 dsimp only
 refine(Ret.iter (fun x=>∃k:Nat,k<=8/\x=(((n:Int),v,((wU (uns v) k:Nat):Int),(k:Int),()),())) (fun x=>8-x.1.2.2.2.1.toNat) ?_ F _ ⟨0,by omega,rfl⟩ (by unfold F;dsimp only;omega)).eq
 rintro _ rec ⟨k,hk,rfl⟩ hrec
 dsimp only at hrec|-
 by_cases h:k<8
 ·rw[ae (fv),CA _ _ (by omega),aa]
  dsimp only
  have:=GI (uns v) k
  rw[aH,aH (a:=(k:Int))]
  exact hrec _ ⟨k+1,by omega,by
   rw[show wU (uns v) (k+1)=wU (uns v) k+uns v/2^k%2 from rfl,Int.natCast_add]
   rfl⟩ (by dsimp only;omega)
 ·obtain rfl:k=8:=by omega
  rw[ag (fM),cX (a:=8),bn,show 8*(n:Int)-1=((8*n-1:Nat):Int)by omega,CA _ _ (by omega),aa]
  dsimp only
  rw[Fj,lm,aa,bw hv n hn,aa]
  dsimp only
  rw[lm,aa]
  dsimp only
  rw[Ea,lm,aa]
  refine Ret.some ?_
  unfold xA
  simp only[nH]
theorem bitOr {out i b:Nat}(h:out<2^i)(hb:b<=1)(hi:i<=63):ior .u64 (out:Int) (dD .u64 (b:Int) (i:Int))=((out+2^i*b:Nat):Int):=by
 have hp:2^(i+1)<=2^64:=Nat.pow_le_pow_right (by decide) (by omega)
 have hl:b*2^i<2^64:=by
  have:b*2^i<=1*2^i:=Nat.mul_le_mul_right _ hb
  rw[Nat.pow_succ]at hp
  have:=Nat.two_pow_pos i
  omega
 have hs:out+2^i*b<2^64:=by
  have:2^i*b<=2^i*1:=Nat.mul_le_mul_left _ hb
  rw[Nat.pow_succ]at hp
  omega
 rw[If (by omega),Nat.mod_eq_of_lt hl]
 unfold ior
 rw[fh]
 have e1:(BitVec.ofInt IntKind.u64.bits (out:Int)|||BitVec.ofInt IntKind.u64.bits ((b*2^i:Nat):Int)).toNat=out|||b*2^i:=by
  rw[BitVec.toNat_or]
  show(BitVec.ofInt 64 (out:Int)).toNat|||(BitVec.ofInt 64 ((b*2^i:Nat):Int)).toNat=_
  have hh:∀k:Nat,k<2^64->(BitVec.ofInt 64 (k:Int)).toNat=k:=fun k hk=>by
   rw[BitVec.toNat_ofInt]
   have:((k:Int)%((2^64:Nat):Int))=((k%2^64:Nat):Int):=(Int.natCast_emod ..).symm
   rw[this,Int.toNat_natCast,Nat.mod_eq_of_lt hk]
  rw[hh _ (by omega),hh _ hl]
 rw[e1,Nat.or_comm,Nat.mul_comm b,<-Nat.two_pow_add_eq_or_of_lt h,Nat.add_comm]
 have:((out+2^i*b:Nat):Int)<((2^64:Nat):Int):=Int.ofNat_lt.2 hs
 exact Int.emod_eq_of_lt (by omega) this
theorem uZ {i n:Nat}(h:i<=8*n)(v:Int):cg v n%2^i=uns v%2^i:=by
 unfold cg
 exact Nat.mod_mod_of_dvd _ (Nat.pow_dvd_pow 2 h)
theorem lS {a b:Int}{n c:Nat}(less:Bool)(hn:cl (n:Int)=true)(hc:c<=1):
  cj (((n:Int),a,b,(c:Int),less,()),())=some (((if less=true then tV n a b c else vJ n a b c).1,(if less=true then tV n a b c else vJ n a b c).2,()),()):=by
 obtain⟨h1,h8⟩:=dL hn
 unfold cj
 dsimp only
 refine(Ret.iter (fun x=>∃i out c' into:Nat,i<=8*n/\(if less=true then SubInv (uns a) (uns b) c i out c' else AddInv (uns a) (uns b) c i out c')/\
   (∀j,i=j+1->∃out',if less=true then SubInv (uns a) (uns b) c j out' into else AddInv (uns a) (uns b) c j out' into)/\
   x=(((n:Int),(a,(b,(less,((out:Int),((c':Int),((into:Int),((i:Int),())))))))),())) (fun x=>8*n-(p7 x.1).toNat) ?_ F _ ⟨0,0,c,0,by omega,by cases less;exact AddInv.init hc;exact SubInv.init hc,fun j hj=>by omega,rfl⟩ (by unfold F;dsimp only[p7];omega)).eq
 rintro _ rec ⟨i,out,c',into,hi,hv,hin,rfl⟩ hrec
 dsimp only[p5,p6,p7,p8,d7]at hrec|-
 rw[cX (a:=8)]
 by_cases h:i<8*n
 ·rw[ae (fv),CA _ _ (by omega),CA _ _ (by omega),aa,aa]
  dsimp only
  have hx:=qk (uns a) i
  have hy:=qk (uns b) i
  have hwi:aj .u64 (i:Int)=(i:Int):=cJ
  have next:∀(d k:Nat),d<=1->k<=1->(if less=true then SubInv (uns a) (uns b) c (i+1) (out+2^i*d) k else AddInv (uns a) (uns b) c (i+1) (out+2^i*d) k)->
    Ret (br (leI 0 (aj .u64 (i:Int))) (rec (((n:Int),a,b,less,(ior .u64 (out:Int) (dD .u64 (aj .u64 (d:Int)) (aj .u64 (i:Int)))),(k:Int),(c':Int),(aB .i64 (i:Int) 1),()),())) none) (fun z=>z=(((if less=true then tV n a b c else vJ n a b c).1,(if less=true then tV n a b c else vJ n a b c).2,()),())):=fun d k hd hk hinv=>by
   have hwd:aj .u64 (d:Int)=(d:Int):=cJ
   have hlo:out<2^i:=by cases less;exact hv.lo;exact hv.lo
   rw[hwi,hwd,ae (fu),bitOr hlo hd (by omega),aH]
   exact hrec _ ⟨i+1,_,k,c',by omega,hinv,fun j hj=>by
    obtain rfl:j=i:=by omega
    exact⟨out,hv⟩,rfl⟩ (by dsimp only;omega)
  cases less with
  |true=>
   rw[aE,wE,aa,aa,ah]
   have hv:SubInv (uns a) (uns b) c i out c':=hv
   have hc':=hv.hc
   have st:=hv.step
   obtain⟨x,hx'⟩:∃x,x=uns a/2^i%2:=⟨_,rfl⟩
   obtain⟨y,hy'⟩:∃y,y=uns b/2^i%2:=⟨_,rfl⟩
   rw[<-hx']at hx st|-
   rw[<-hy']at hy st|-
   have e1:aB .i64 (aT .i64 (aT .i64 (x:Int) (y:Int)) (c':Int)) 2=((x+2-y-c':Nat):Int):=by
    rw[bn (a:=(x:Int)) (b:=(y:Int)),bn,aH];omega
   rw[e1,dG]
   have e2:((x+2-y-c':Nat):Int)%2=(((x+2-y-c')%2:Nat):Int):=by omega
   have e3:(if ltI ((x+2-y-c':Nat):Int) 2=true then(1:Int)else 0)=((if x+2-y-c'<2 then 1 else 0:Nat):Int):=by
    by_cases g:x+2-y-c'<2
    ·rw[fv,if_pos rfl,if_pos g];rfl
    ·rw[fM,iD,if_neg g];rfl
   dsimp only
   rw[e2,e3]
   exact next _ _ (by omega) (by split<;>omega) st
  |false=>
   rw[ak,aa,ah]
   have hv:AddInv (uns a) (uns b) c i out c':=hv
   have hc':=hv.hc
   have st:=hv.step
   obtain⟨x,hx'⟩:∃x,x=uns a/2^i%2:=⟨_,rfl⟩
   obtain⟨y,hy'⟩:∃y,y=uns b/2^i%2:=⟨_,rfl⟩
   rw[<-hx']at hx st|-
   rw[<-hy']at hy st|-
   have e1:aB .i64 (aB .i64 (x:Int) (y:Int)) (c':Int)=((x+y+c':Nat):Int):=by
    rw[aH (a:=(x:Int)) (b:=(y:Int)),aH];omega
   rw[e1,dG,fS (by omega) (by decide) (by omega)]
   have e2:((x+y+c':Nat):Int)%2=(((x+y+c')%2:Nat):Int):=by omega
   have e3:((x+y+c':Nat):Int)/2=(((x+y+c')/2:Nat):Int):=by omega
   dsimp only
   rw[e2,e3]
   exact next _ _ (by omega) (by omega) st
 ·obtain rfl:i=8*n:=by omega
  obtain⟨out',hin⟩:=hin (8*n-1) (by omega)
  rw[ag (fM)]
  have hV:aj .i64 (out:Int)=(if less=true then Ht n a b c else sumV n a b c):=by
   cases less with
   |true=>
    have hv:SubInv (uns a) (uns b) c (8*n) out c':=hv
    rw[if_pos rfl]
    unfold Ht nF aj
    have:=hv.fin.1
    unfold cg
    rw[<-this,Nat.mod_eq_of_lt hv.lo]
   |false=>
    have hv:AddInv (uns a) (uns b) c (8*n) out c':=hv
    rw[iD]
    unfold sumV nF aj
    have:=hv.fin.1
    unfold cg
    rw[<-this]
  have hC:eqI (c':Int) 1=(if less=true then subC n a b c else sumC n a b c):=by
   cases less with
   |true=>
    have hv:SubInv (uns a) (uns b) c (8*n) out c':=hv
    rw[if_pos rfl]
    unfold subC cg eqI
    have:=hv.fin.2
    rw[Bool.eq_iff_iff,decide_eq_true_eq,decide_eq_true_eq]
    by_cases g:uns a%2^(8*n)<uns b%2^(8*n)+c
    ·rw[if_pos g]at this;omega
    ·rw[if_neg g]at this;omega
   |false=>
    have hv:AddInv (uns a) (uns b) c (8*n) out c':=hv
    rw[iD]
    unfold sumC cg eqI
    rw[<-hv.fin.2,Bool.eq_iff_iff,decide_eq_true_eq,decide_eq_true_eq]
    omega
  have hT:eqI (into:Int) 1=(if less=true then EN n a b c else sumI n a b c)/\into<=1:=by
   cases less with
   |true=>
    have hin:SubInv (uns a) (uns b) c (8*n-1) out' into:=hin
    refine⟨?_,hin.hc⟩
    rw[if_pos rfl]
    unfold EN eqI
    rw[uZ (by omega),uZ (by omega)]
    have:=hin.fin.2
    rw[Bool.eq_iff_iff,decide_eq_true_eq,decide_eq_true_eq]
    by_cases g:uns a%2^(8*n-1)<uns b%2^(8*n-1)+c
    ·rw[if_pos g]at this;omega
    ·rw[if_neg g]at this;omega
   |false=>
    have hin:AddInv (uns a) (uns b) c (8*n-1) out' into:=hin
    refine⟨?_,hin.hc⟩
    rw[iD]
    unfold sumI eqI
    rw[uZ (by omega),uZ (by omega),<-hin.fin.2,Bool.eq_iff_iff,decide_eq_true_eq,decide_eq_true_eq]
    omega
  have hc':c'<=1:=by cases less;exact hv.hc;exact hv.hc
  have hne:aQ (eqI (c':Int) (into:Int))=(eqI (c':Int) 1 != eqI (into:Int) 1):=by
   have:=hT.2
   rw[neI]
   have a1:c'=0\/c'=1:=by omega
   have a2:into=0\/into=1:=by omega
   rcases a1 with rfl|rfl<;>rcases a2 with rfl|rfl<;>rfl
  rw[hV,oH hn (by split<;>exact lk _ _),aa,lm,aa,hne,hC,hT.1,lm,aa]
  dsimp only
  refine Ret.some ?_
  cases less with
  |true=>rfl
  |false=>rfl
theorem vA {a b:Int}{n c:Nat}(hn:cl (n:Int)=true)(ha:I64 a)(hb:I64 b):vJ n (bV a n) (bV b n) c=vJ n a b c:=by
 unfold vJ sumV sumC sumI
 rw[nk ha hn,nk hb hn]
theorem qN {a b:Int}{n c:Nat}(hn:cl (n:Int)=true)(ha:I64 a)(hb:I64 b):tV n (bV a n) (bV b n) c=tV n a b c:=by
 unfold tV Ht subC EN
 rw[nk ha hn,nk hb hn]
theorem wL {v w:Int}{n:Nat}(hn:cl (n:Int)=true)(hv:I64 v)(hw:I64 w)(h:cg v n=cg w n):bV v n=bV w n:=by rw[ji hv hn,ji hw hn,h]
theorem tX {v w:Int}{n:Nat}(hn:cl (n:Int)=true)(hv:I64 v)(hw:I64 w)(h:cg v n=cg w n):xA n v=xA n w:=by
 obtain⟨h1,h8⟩:=dL hn
 unfold xA
 rw[kr (n:=n) (by omega),kr (v:=w) (n:=n) (by omega),h,wL hn hv hw h]
 have hp:G5 v=G5 w:=by
  unfold G5
  have e:∀v:Int,uns v%256=cg v n%256:=fun v=>by
   unfold cg
   rw[Nat.mod_mod_of_dvd _ (show 256∣2^(8*n)from by
    have:=Nat.pow_dvd_pow 2 (show 8<=8*n by omega)
    exact this)]
  rw[e v,e w,h]
 rw[hp]
theorem Hx {v:Int}{n:Nat}(hn:cl (n:Int)=true)(hv:I64 v):xA n (bV v n)=xA n v:=tX hn (eM hv hn) hv (nk hv hn)
theorem nB (op a b:Int):I64 (mi op a b):=by
 unfold mi
 split
 ·exact ly ..
 split
 ·exact ou ..
 ·exact au _
theorem AG {op a b:Int}{n:Nat}(hn:cl (n:Int)=true)(ha:I64 a)(hb:I64 b):cg (mi op (bV a n) (bV b n)) n=cg (mi op a b) n/\cg (mi op a b) n=uns (mi op (bV a n) (bV b n)):=by
 have h8:=(dL hn).2
 have hlt:∀v,cg v n%2^(8*n)=cg v n:=fun v=>Nat.mod_eq_of_lt (gO v n)
 have key:cg (mi op a b) n=uns (mi op (bV a n) (bV b n)):=by
  unfold mi
  split
  ·rw[mV,cB ha hn,cB hb hn]
   unfold cg
   rw[mV,Nat.or_mod_two_pow]
  split
  ·rw[qP,cB ha hn,cB hb hn]
   unfold cg
   rw[qP,Nat.xor_mod_two_pow]
  ·rw[qO,cB ha hn,cB hb hn]
   unfold cg
   rw[qO,Nat.and_mod_two_pow]
 refine⟨?_,key⟩
 show uns (mi op (bV a n) (bV b n))%2^(8*n)=_
 rw[<-key,hlt]
theorem xF {op a b:Int}{n:Nat}(hn:cl (n:Int)=true)(ha:I64 a)(hb:I64 b):bV (mi op a b) n=mi op (bV a n) (bV b n):=by
 refine j6 (eM (nB ..) hn) (nB ..) ?_
 rw[cB (nB ..) hn,(AG hn ha hb).2]
theorem Bk (op a b:Int):il ((op,a,b,()),())=some (mi op a b,()):=by
 unfold il mi
 dsimp only
 by_cases h2:op=2
 ·rw[be h2,aE,if_pos h2]
 ·rw[aq h2,ak,if_neg h2]
  by_cases h7:op=7
  ·rw[be h7,aE,if_pos h7]
  ·rw[aq h7,ak,if_neg h7]
theorem DB {op a b f:Int}{n:Nat}(hn:cl (n:Int)=true)(ha:I64 a)(hb:I64 b):i5 ((op,(n:Int),a,b,f,()),())=some (((xS op n a b f).1,(xS op n a b f).2,()),()):=by
 unfold i5 xS
 dsimp only
 have hf:cz .i64 f 1=(((f%2).toNat:Nat):Int):=wm f
 have hc:(f%2).toNat<=1:=by omega
 have add0:=lS (a:=a) (b:=b) (c:=0) false hn (by decide)
 have addc:=lS (a:=a) (b:=b) (c:=(f%2).toNat) false hn hc
 have sub0:=lS (a:=a) (b:=b) (c:=0) true hn (by decide)
 have subc:=lS (a:=a) (b:=b) (c:=(f%2).toNat) true hn hc
 rw[iD]at add0 addc
 rw[if_pos rfl]at sub0 subc
 have z0:((0:Nat):Int)=0:=rfl
 rw[z0]at add0 sub0
 rw[vA hn ha hb,vA hn ha hb,qN hn ha hb,qN hn ha hb,hf]
 by_cases h1:op=1
 ·rw[be h1,aE,if_pos h1,add0,aa]
 rw[aq h1,ak,if_neg h1]
 by_cases h3:op=3
 ·rw[be h3,aE,if_pos h3,addc,aa]
 rw[aq h3,ak,if_neg h3]
 by_cases h6:op=6
 ·rw[be h6,aE,if_pos h6,sub0,aa]
 rw[aq h6,ak,if_neg h6]
 by_cases h4:op=4
 ·rw[be h4,aE,if_pos h4,subc,aa]
 rw[aq h4,ak,if_neg h4]
 by_cases h8:op=8
 ·rw[be h8,aE,if_pos h8,sub0,aa,bw ha n hn,aa]
 rw[aq h8,ak,if_neg h8]
 by_cases h10:op=10
 ·rw[be h10,aE,if_pos h10,bw ha n hn,aa,oH (v:=cz .i64 a b) hn (au _),aa]
  have e:=tX (v:=cz .i64 a b) (w:=cz .i64 (bV a n) (bV b n)) hn (au _) (au _) (AG (op:=0) hn ha hb).1.symm
  dsimp only
  rw[e]
 rw[aq h10,ak,if_neg h10,Bk,aa]
 dsimp only
 rw[bw (nB ..) n hn,aa,oH hn (nB ..),aa]
 dsimp only
 rw[xF hn ha hb,<-Hx hn (nB op a b),xF hn ha hb]
theorem not_low {a:Int}{n:Nat}(hn:cl (n:Int)=true)(ha:I64 a):bV (xK .i64 a) n=bV (xK .i64 (bV a n)) n:=by
 have hi:∀v,I64 (xK .i64 v):=fun v=>ou ..
 refine wL hn (hi _) (hi _) ?_
 obtain⟨K,hK⟩:∃K,K=uns (-1):=⟨_,rfl⟩
 have hu:∀v,uns (xK .i64 v)=K ^^^uns v:=fun v=>by
  rw[hK]
  exact qP (-1) v
 unfold cg
 rw[hu,hu,Nat.xor_mod_two_pow,Nat.xor_mod_two_pow,cB ha hn]
 unfold cg
 rw[Nat.mod_mod]
theorem DC {op a f:Int}{n:Nat}(hn:cl (n:Int)=true)(ha:I64 a):ja ((op,(n:Int),a,f,()),())=some (((yY op n a f).1,(yY op n a f).2,()),()):=by
 unfold ja yY
 dsimp only
 have neg:=lS (a:=0) (b:=a) (c:=0) true hn (by decide)
 have inc:=fun l=>lS (a:=a) (b:=1) (c:=0) l hn (by decide)
 rw[if_pos rfl,show((0:Nat):Int)=0 from rfl]at neg
 have l1:bV 1 n=1:=(yK hn).1
 have l0:bV 0 n=0:=(DN hn).1
 have i1:I64 1:=by unfold I64;omega
 have i0:I64 0:=by unfold I64;omega
 have e1:=qN (c:=0) hn i0 ha
 have e2:=qN (c:=0) hn ha i1
 have e3:=vA (c:=0) hn ha i1
 rw[l0]at e1
 rw[l1]at e2 e3
 rw[e1,e2,e3]
 by_cases h11:op=11
 ·rw[be h11,aE,if_pos h11,bw (v:=xK .i64 a) (ou ..) n hn,aa]
  dsimp only
  rw[not_low hn ha]
 rw[aq h11,ak,if_neg h11]
 by_cases h12:op=12
 ·rw[be h12,aE,if_pos h12,neg,aa]
 rw[aq h12,ak,if_neg h12]
 have hI:cj (((n:Int),a,1,0,eqI op 19,()),())=_:=inc (eqI op 19)
 rw[hI,aa]
 by_cases h19:op=19
 ·rw[be h19,if_pos h19,if_pos rfl]
  rfl
 ·rw[aq h19,if_neg h19,iD]
  rfl
theorem iA (x:Int):I64 (aj .i64 x):=au _
theorem xorB (v w:Int)(k j:Nat):eqI (rz .i64 ((uns v/2^k%2:Nat):Int) ((uns w/2^j%2:Nat):Int)) 1=(l7 v k != l7 w j):=by
 rw[<-Fj v k,<-Fj w j]
 rcases qk (uns v) k with h|h<;>rcases qk (uns w) j with g|g<;>rw[h,g]<;>rfl
theorem topU {a:Int}{n:Nat}(h1:1<=n):cg a n/2^(8*n-1)=uns a/2^(8*n-1)%2:=by
 unfold cg
 have h:2^(8*n)=2^(8*n-1)*2:=by rw[<-Nat.pow_succ,show(8*n-1).succ=8*n by omega]
 rw[h,Nat.mod_mul_right_div_self]
theorem lowbit {a:Int}{n:Nat}(h1:1<=n):cg a n%2=uns a/2^0%2:=by
 unfold cg
 rw[Nat.pow_zero,Nat.div_one]
 exact Nat.mod_mod_of_dvd _ (by
  have:=Nat.pow_dvd_pow 2 (show 1<=8*n by omega)
  exact this)
theorem Ay {a:Int}{n:Nat}(hn:cl (n:Int)=true):uns (bV (aj .i64 (dD .u64 (aj .u64 a) 1)) n)=(2*cg a n)%2^(8*n):=by
 obtain⟨h1,h8⟩:=dL hn
 rw[cB (iA _) hn,eI]
 unfold cg aj
 rw[b8,show(1:Int)=((1:Nat):Int)from rfl,If (by decide),fg (Nat.mod_lt _ (by decide))]
 have hd:2^(8*n)∣18446744073709551616:=Nat.pow_dvd_pow 2 (show 8*n<=64 by omega)
 rw[Nat.mod_mod_of_dvd _ hd,Nat.pow_one,Nat.mul_comm (uns a) 2]
 rw[Nat.mul_mod 2 (uns a%2^(8*n)),Nat.mod_mod,<-Nat.mul_mod]
theorem AA {a:Int}{n:Nat}(hn:cl (n:Int)=true)(ha:I64 a):cu .u64 (aj .u64 (bV a n)) 1=((cg a n/2:Nat):Int):=by
 rw[eI,cB ha hn,show(1:Int)=((1:Nat):Int)from rfl,BJ (by decide),Nat.pow_one]
theorem zZ {a:Int}{n:Nat}(h1:1<=n):cg a n/2<2^(8*n-1):=by
 have h:=gO a n
 rw[show 8*n=8*n-1+1 by omega,Nat.pow_succ]at h
 generalize cg a n=u at*
 omega
theorem oL {op:Int}{n:Nat}(hn:cl (n:Int)=true){a v:Int}(hv:I64 v)(h:uns v=wT op (8*n) (cg a n)):v=jP op n a:=by
 refine j6 hv (gC ..) ?_
 rw[h,kZ _ hn]
theorem Bj {op a f:Int}{n:Nat}(hop:20<=op/\op<=24)(hn:cl (n:Int)=true)(ha:I64 a):
  ij ((op,(n:Int),a,f,()),())=some (((rR op n a f).1,(rR op n a f).2,()),()):=by
 obtain⟨h1,h8⟩:=dL hn
 unfold ij
 dsimp only
 have e8:aT .i64 (bK .i64 8 (n:Int)) 1=((8*n-1:Nat):Int):=by
  rw[cX (a:=8),bn];omega
 have e7:aT .i64 ((8*n-1:Nat):Int) 1=((8*n-2:Nat):Int):=by
  rw[bn];omega
 have w8:aj .u64 ((8*n-1:Nat):Int)=((8*n-1:Nat):Int):=cJ
 have b0:aO ((a,0,()),())=some (((uns a/2^0%2:Nat):Int),()):=CA a 0 (by decide)
 rw[e8,CA _ _ (by omega),aa,b0,aa]
 dsimp only
 have hwb:∀x:Nat,x%2=x->aj .u64 (x:Int)=(x:Int):=fun x hx=>cJ
 refine(Ret.bnd (Q:=fun y=>∃c o:Int,y=Sum.inl ((op,(n:Int),f,jP op n a,c,o,()),())/\eqI c 1=yW op n a/\eqI o 1=yX op n a) ?_ ?_).eq
 ·by_cases h20:op=20
  ·subst h20
   rw[be rfl,aE,bw (iA _) n hn,aa]
   dsimp only
   have hV:ior .i64 (bV (aj .i64 (dD .u64 (aj .u64 a) 1)) n) ((uns a/2^(8*n-1)%2:Nat):Int)=jP 20 n a:=by
    refine oL hn (ly ..) ?_
    rw[mV,Ay hn,fg (by have:=qk (uns a) (8*n-1);omega)]
    unfold wT
    rw[if_pos rfl,topU h1]
    have hev:(2*cg a n)%2^(8*n)%2=0:=by
     rw[Nat.mod_mod_of_dvd _ (by
      have:=Nat.pow_dvd_pow 2 (show 1<=8*n by omega)
      exact this)]
     omega
    have:=H6 hev (decide (uns a/2^(8*n-1)%2=1))
    rcases qk (uns a) (8*n-1)with h|h
    ·rw[h]at this|-;simp
    ·rw[h]at this|-;simpa using this
   rw[hV,CA _ _ (by omega),aa]
   exact Ret.some ⟨_,_,rfl,by rw[Fj];rfl,by rw[xorB];rfl⟩
  rw[aq h20,ak]
  refine Ret.bnd (Q:=fun y=>∃c o:Int,y=Sum.inl ((op,(n:Int),f,jP op n a,c,o,()),())/\eqI c 1=yW op n a/\eqI o 1=yX op n a) ?_ (by rintro _ ⟨c,o,rfl,g⟩;rw[ah];exact Ret.some ⟨c,o,rfl,g⟩)
  by_cases h22:op=22
  ·subst h22
   rw[be rfl,aE,bw (iA _) n hn,aa]
   dsimp only
   have hV:bV (aj .i64 (dD .u64 (aj .u64 a) 1)) n=jP 22 n a:=by
    refine oL hn (eM (iA _) hn) ?_
    rw[Ay hn]
    rfl
   rw[hV,CA _ _ (by omega),aa]
   exact Ret.some ⟨_,_,rfl,by rw[Fj];rfl,by rw[xorB];rfl⟩
  rw[aq h22,ak]
  refine Ret.bnd (Q:=fun y=>∃c o:Int,y=Sum.inl ((op,(n:Int),f,jP op n a,c,o,()),())/\eqI c 1=yW op n a/\eqI o 1=yX op n a) ?_ (by rintro _ ⟨c,o,rfl,g⟩;rw[ah];exact Ret.some ⟨c,o,rfl,g⟩)
  have hjoin:∀x:Nat,x<=1->aj .i64 (ior .u64 (cu .u64 (aj .u64 (bV a n)) 1) (dD .u64 (aj .u64 (x:Int)) ((8*n-1:Nat):Int)))=IntKind.wrap .i64 ((cg a n/2+2^(8*n-1)*x:Nat):Int)/\uns (IntKind.wrap .i64 ((cg a n/2+2^(8*n-1)*x:Nat):Int))=cg a n/2+x*2^(8*n-1):=fun x hx=>by
   refine⟨?_,?_⟩
   ·rw[AA hn ha,cJ,bitOr (zZ h1) hx (by omega)]
    rfl
   ·rw[b8,Nat.mul_comm x,fg]
    have hp:2^(8*n-1+1)<=2^64:=Nat.pow_le_pow_right (by decide) (by omega)
    have:=zZ (a:=a) h1
    have:2^(8*n-1)*x<=2^(8*n-1)*1:=Nat.mul_le_mul_left _ hx
    rw[Nat.pow_succ]at hp
    omega
  by_cases h21:op=21
  ·subst h21
   rw[be rfl,aE,bw ha n hn,aa]
   dsimp only
   obtain⟨j1,j2⟩:=hjoin (uns a/2^0%2) (by omega)
   rw[w8,ae (fu),j1]
   have hV:IntKind.wrap .i64 ((cg a n/2+2^(8*n-1)*(uns a/2^0%2):Nat):Int)=jP 21 n a:=by
    refine oL hn (au _) ?_
    rw[j2,<-lowbit h1]
    rfl
   rw[hV,CA _ _ (by omega),aa,e7,CA _ _ (by omega),aa]
   exact Ret.some ⟨_,_,rfl,by rw[Fj];rfl,by rw[xorB];rfl⟩
  rw[aq h21,ak]
  refine Ret.bnd (Q:=fun y=>∃c o:Int,y=Sum.inl ((op,(n:Int),f,jP op n a,c,o,()),())/\eqI c 1=yW op n a/\eqI o 1=yX op n a) ?_ (by rintro _ ⟨c,o,rfl,g⟩;rw[ah];exact Ret.some ⟨c,o,rfl,g⟩)
  by_cases h23:op=23
  ·subst h23
   rw[be rfl,aE,bw ha n hn,aa]
   dsimp only
   have hV:aj .i64 (cu .u64 (aj .u64 (bV a n)) 1)=jP 23 n a:=by
    refine oL hn (au _) ?_
    rw[AA hn ha]
    unfold aj
    rw[b8,fg]
    ·rfl
    ·have:=eJ a
     have:cg a n<=uns a:=Nat.mod_le _ _
     omega
   rw[hV]
   exact Ret.some ⟨_,_,rfl,by rw[Fj];rfl,by rw[Fj];rfl⟩
  ·have h24:op=24:=by omega
   subst h24
   rw[aq (by decide),ak,bw ha n hn,aa]
   dsimp only
   obtain⟨j1,j2⟩:=hjoin (uns a/2^(8*n-1)%2) (by omega)
   rw[w8,ae (fu),j1]
   have hV:IntKind.wrap .i64 ((cg a n/2+2^(8*n-1)*(uns a/2^(8*n-1)%2):Nat):Int)=jP 24 n a:=by
    refine oL hn (au _) ?_
    rw[j2,<-topU h1]
    rfl
   rw[hV]
   exact Ret.some ⟨_,_,rfl,by rw[Fj];rfl,rfl⟩
 rintro _ ⟨c,o,rfl,hC,hO⟩
 rw[ah]
 dsimp only[p5]
 have hbr:br (aQ (eqI op 20)) (some (aQ (eqI op 21))) (some false)=some (decide (¬(op=20\/op=21))):=by
  by_cases a8:op=20
  ·rw[be a8,bE,ak,dF]
  ·rw[aq a8,bU,aE]
   by_cases a10:op=21
   ·rw[be a10,bE,dF]
   ·rw[aq a10,bU,dT]
 rw[hbr,aa]
 refine Ret.bnd (Q:=fun y=>y=Sum.inl ((jP op n a,c,o,Bv op n a f,()),())) ?_ ?_
 ·unfold Bv
  by_cases hk:op=20\/op=21
  ·rw[dF,ak,if_pos hk]
   exact Ret.some rfl
  ·rw[decide_eq_true hk,aE,if_neg hk,oH hn (gC ..),aa]
   exact Ret.some rfl
 rintro _ rfl
 rw[ah]
 dsimp only
 rw[lm,aa,lm,aa,hC,hO]
 exact Ret.some rfl
theorem Be (op:Int)(n k:Nat)(x:Int×Int):ry op n (k+1) x=ry op n k (rR op n x.1 x.2):=rfl
theorem yH {op a k f:Int}{n:Nat}(hop:20<=op/\op<=24)(hn:cl (n:Int)=true)(ha:I64 a):
  gn ((op,(n:Int),a,k,f,()),())=some (((jS op n a k f).1,(jS op n a k f).2,()),()):=by
 obtain⟨h1,h8⟩:=dL hn
 unfold gn jS
 dsimp only
 have hk:=bt k
 have hku:=eJ k
 have hcnt:∀m:Int,m=64\/m=32->aj .i64 (fw (aj .u64 k) m)=k%m:=fun m hm=>by
  rw[eI,dG]
  have:((uns k:Nat):Int)%m=k%m:=by
   rw[hk,show(2:Int)^64=18446744073709551616 from rfl]
   rcases hm with rfl|rfl<;>omega
  rw[this]
  exact dC (by unfold I64;rcases hm with rfl|rfl<;>omega)
 refine(Ret.bnd (Q:=fun y=>y=Sum.inl ((op,(n:Int),a,f,((ze n k:Nat):Int),()),())) ?_ ?_).eq
 ·unfold ze
  by_cases h:n=8
  ·rw[be (show(n:Int)=8 by omega),aE,hcnt 64 (.inl rfl),if_pos h]
   exact Ret.some (by rw[show k%64=(((k%64).toNat:Nat):Int)by omega];rfl)
  ·rw[aq (show(n:Int)≠8 by omega),ak,hcnt 32 (.inr rfl),if_neg h]
   exact Ret.some (by rw[show k%32=(((k%32).toNat:Nat):Int)by omega];rfl)
 rintro _ rfl
 rw[ah]
 dsimp only
 rw[bw ha n hn,aa]
 have hN:ze n k<64:=by unfold ze;split<;>omega
 obtain⟨N,hNe⟩:∃N,N=ze n k:=⟨_,rfl⟩
 rw[<-hNe]at hN|-
 refine Ret.iter (fun x=>∃(i:Nat) (v g:Int),i<=N/\I64 v/\ry op n (N-i) (v,g)=ry op n N (bV a n,f)/\x=((op,(n:Int),g,(N:Int),v,(i:Int),()),())) (fun x=>N-(p5 x.1).toNat) ?_ F _ ⟨0,_,f,by omega,eM ha hn,rfl,rfl⟩ (by unfold F;dsimp only[p5];omega)
 rintro _ rec ⟨i,v,g,hi,hv,he,rfl⟩ hrec
 dsimp only[p5]at hrec|-
 by_cases h:i<N
 ·rw[ae (fv),Bj hop hn hv,aa]
  dsimp only
  rw[aH]
  exact hrec _ ⟨i+1,_,_,by omega,gC ..,by
   rw[show N-i=N-(i+1)+1 by omega,Be]at he
   exact he,rfl⟩ (by dsimp only;omega)
 ·obtain rfl:i=N:=by omega
  rw[ag (fM)]
  rw[Nat.sub_self]at he
  refine Ret.some ?_
  rw[<-he]
  rfl
theorem Gk (x:Int):dD .u64 x 1=x*2%18446744073709551616:=Az x 1 (by decide)
theorem Dy (x:Int):cu .u64 x 63=x/9223372036854775808:=sl x 63 (by decide)
theorem Bh {a b:Nat}(ha:a<18446744073709551616)(hb:b<18446744073709551616):
  eu (((a:Int),(b:Int),()),())=some ((((a*b/18446744073709551616:Nat):Int),((a*b%18446744073709551616:Nat):Int),()),()):=by
 unfold eu
 dsimp only
 refine(Ret.iter (fun x=>∃(k:Nat) (h l:Int),k<=64/\WideInv a b k h l/\x=(((a:Int),(b:Int),h,l,((k:Int)-1),()),())) (fun x=>(x.1.2.2.2.2.1+1).toNat) ?_ F _ ⟨64,0,0,by omega,WideInv.init hb,rfl⟩ (by unfold F;dsimp only;omega)).eq
 rintro _ rec ⟨k,h,l,hk,hw,rfl⟩ hrec
 dsimp only at hrec|-
 cases k with
 |zero=>
  rw[ag (j9)]
  obtain⟨e1,e2⟩:=hw.fin
  exact Ret.some (by rw[e1,e2])
 |succ k=>
  have ek:((k+1:Nat):Int)-1=(k:Int):=by omega
  rw[ek]at hrec|-
  have hwk:aj .u64 (k:Int)=(k:Int):=cJ
  rw[ae (fu),hwk,ae (fu),BJ (by omega),dG (Int.natCast_nonneg _),Gk,Gk,Dy]
  have hbit:((b/2^k:Nat):Int)%2=((b/2^k%2:Nat):Int):=(Int.natCast_emod _ 2).symm
  rw[hbit,Cq,Cq,Cq]
  have hx:(h*2%18446744073709551616+l/9223372036854775808)%18446744073709551616=(h*2+l/9223372036854775808)%18446744073709551616:=by omega
  have hx1:((h*2%18446744073709551616+l/9223372036854775808)%18446744073709551616+1)%18446744073709551616=((h*2+l/9223372036854775808)%18446744073709551616+1)%18446744073709551616:=by omega
  refine Ret.bnd (Q:=fun y=>∃h' l',WideInv a b k h' l'/\y=Sum.inl (((a:Int),(b:Int),h',l',(k:Int),()),())) ?_ ?_
  ·rcases qk b k with h0|h0
   ·rw[h0,ag (by rfl)]
    exact Ret.some ⟨_,_,hw.step0 ha hb h0,by rw[hx]⟩
   ·rw[h0,ae (by rfl)]
    have hst:=hw.step1 ha hb h0 (h':=(h*2+l/9223372036854775808)%18446744073709551616) (l':=l*2%18446744073709551616) rfl rfl
    refine Ret.bnd (Q:=fun y=>∃h' l',WideInv a b k h' l'/\y=Sum.inl (((a:Int),(b:Int),h',l',(k:Int),()),())) ?_ (by rintro _ ⟨h',l',g,rfl⟩;rw[ah];exact Ret.some ⟨h',l',g,rfl⟩)
    by_cases hc:(l*2%18446744073709551616+(a:Int))%18446744073709551616<l*2%18446744073709551616
    ·rw[ae (fv hc)]
     exact Ret.some ⟨_,_,hst.1 hc,by rw[hx1]⟩
    ·rw[ag (fM hc)]
     exact Ret.some ⟨_,_,hst.2 hc,by rw[hx]⟩
  rintro _ ⟨h',l',hw',rfl⟩
  rw[ah]
  dsimp only
  rw[bn]
  exact hrec _ ⟨k,h',l',by omega,hw',rfl⟩ (by dsimp only;omega)
theorem QuoInv.q_lt {hi lo d k q r:Nat}(H:QuoInv hi lo d k q r)(h:hi<d)(hl:lo<18446744073709551616)(hk:k<=64):q<2^(64-k):=by
 have hP:2^k*2^(64-k)=18446744073709551616:=by rw[<-Nat.pow_add,show k+(64-k)=64 by omega]
 have h1:lo/2^k<2^(64-k):=Nat.div_lt_of_lt_mul (by rw[hP];exact hl)
 have h2:(hi+1)*2^(64-k)<=d*2^(64-k):=Nat.mul_le_mul_right _ h
 rw[Nat.add_mul,Nat.one_mul]at h2
 have h3:=H.e
 refine Nat.lt_of_mul_lt_mul_right (a:=d) ?_
 rw[Nat.mul_comm (2^(64-k)) d]
 generalize hi*2^(64-k)=A at*
 generalize d*2^(64-k)=B at*
 generalize q*d=C at*
 omega
theorem Eh {r b d r2:Int}(r0:0<=r)(hr:r<d)(hd:d<18446744073709551616)(b0:b=0\/b=1)(e:r2=(r*2%18446744073709551616+b)%18446744073709551616):
  (r/9223372036854775808=1->d<=r*2+b)/\(¬r/9223372036854775808=1->(d<=r2↔d<=r*2+b))/\(d<=r*2+b->(r2-d)%18446744073709551616=r*2+b-d)/\(r*2+b<d->r2=r*2+b):=by
 refine⟨?_,?_,?_,?_⟩<;>omega
theorem wB {hi lo d:Nat}(h:hi<d)(hd:d<18446744073709551616)(hlo:lo<18446744073709551616):
  fE (((hi:Int),(lo:Int),(d:Int),()),())=some (((((hi*18446744073709551616+lo)/d:Nat):Int),(((hi*18446744073709551616+lo)%d:Nat):Int),()),()):=by
 unfold fE
 dsimp only
 refine(Ret.iter (fun x=>∃k q r:Nat,k<=64/\QuoInv hi lo d k q r/\x=(((lo:Int),(d:Int),(q:Int),(r:Int),((k:Int)-1),()),())) (fun x=>(x.1.2.2.2.2.1+1).toNat) ?_ F _ ⟨64,0,hi,by omega,QuoInv.init h hlo,rfl⟩ (by unfold F;dsimp only;omega)).eq
 rintro _ rec ⟨k,q,r,hk,hw,rfl⟩ hrec
 dsimp only at hrec|-
 cases k with
 |zero=>
  rw[ag (j9)]
  obtain⟨e1,e2⟩:=hw.fin
  exact Ret.some (by rw[e1,e2])
 |succ k=>
  have ek:((k+1:Nat):Int)-1=(k:Int):=by omega
  rw[ek]at hrec|-
  have hwk:aj .u64 (k:Int)=(k:Int):=cJ
  obtain⟨st0,st1⟩:=hw.step (by omega)
  have hrd:=hw.lt
  have hbit:((lo/2^k:Nat):Int)%2=((lo/2^k%2:Nat):Int):=(Int.natCast_emod _ 2).symm
  obtain⟨b,hb⟩:∃b,b=lo/2^k%2:=⟨_,rfl⟩
  rw[<-hb]at st0 st1 hbit
  have hb01:b=0\/b=1:=by rw[hb];exact qk lo k
  rw[ae (fu),hwk,ae (fu),BJ (by omega),dG (Int.natCast_nonneg _),hbit,Dy,Gk,Gk,Cq,Cq,subU]
  obtain⟨r2,hr2⟩:∃r2:Int,r2=((r:Int)*2%18446744073709551616+(b:Int))%18446744073709551616:=⟨_,rfl⟩
  rw[<-hr2]
  obtain⟨a1,a2,a3,a4⟩:=Eh (r:=(r:Int)) (b:=(b:Int)) (d:=(d:Int)) (by omega) (by omega) (by omega) (by omega) hr2
  have hcond:br (eqI ((r:Int)/9223372036854775808) 1) (some true) (some (leI (d:Int) r2))=some (decide (d<=r*2+b)):=by
   by_cases g:(r:Int)/9223372036854775808=1
   ·have:=a1 g
    rw[be g,aE,dT]
   ·have:=a2 g
    rw[aq g,ak]
    by_cases g2:d<=r*2+b
    ·rw[decide_eq_true g2,fu (this.2 (by omega))]
    ·rw[decide_eq_false g2,j9 (fun z=>g2 (by have:=this.1 z;omega))]
  rw[hcond,aa]
  have hp:2^(64-k)<=2^64:=Nat.pow_le_pow_right (by decide) (by omega)
  refine Ret.bnd (Q:=fun y=>∃q' r':Nat,QuoInv hi lo d k q' r'/\y=Sum.inl (((lo:Int),(d:Int),(q':Int),(r':Int),(k:Int),()),())) ?_ ?_
  ·by_cases g2:d<=r*2+b
   ·have hq:=(st1 g2).q_lt h hlo (by omega)
    rw[decide_eq_true g2,aE,a3 (by omega)]
    refine Ret.some ⟨q*2+1,r*2+b-d,st1 g2,?_⟩
    rw[show((q:Int)*2%18446744073709551616+1)%18446744073709551616=((q*2+1:Nat):Int)by omega,show(r:Int)*2+(b:Int)-(d:Int)=((r*2+b-d:Nat):Int)by omega]
   ·have hq:=(st0 (by omega)).q_lt h hlo (by omega)
    rw[decide_eq_false g2,ak,a4 (by omega)]
    refine Ret.some ⟨q*2,r*2+b,st0 (by omega),?_⟩
    rw[show((q:Int)*2%18446744073709551616)=((q*2:Nat):Int)by omega,show(r:Int)*2+(b:Int)=((r*2+b:Nat):Int)by omega]
  rintro _ ⟨q',r',hw',rfl⟩
  rw[ah]
  dsimp only
  rw[bn]
  exact hrec _ ⟨k,q',r',by omega,hw',rfl⟩ (by dsimp only;omega)
theorem inotU {h:Int}(h0:0<=h)(h1:h<18446744073709551616):xK .u64 h=18446744073709551615-h:=by
 unfold xK rz
 rw[fh]
 have e:(BitVec.ofInt IntKind.u64.bits (if IntKind.u64.signed=true then -1 else IntKind.u64.max)^^^BitVec.ofInt IntKind.u64.bits h).toNat=(18446744073709551615-h).toNat:=by
  have e1:(BitVec.ofInt IntKind.u64.bits (if IntKind.u64.signed=true then -1 else IntKind.u64.max))=BitVec.allOnes 64:=by rfl
  have e2:(BitVec.ofInt 64 h).toNat=h.toNat:=by rw[BitVec.toNat_ofInt];omega
  rw[e1]
  show(BitVec.allOnes 64 ^^^BitVec.ofInt 64 h).toNat=_
  rw[BitVec.allOnes_xor,BitVec.toNat_not,e2]
  omega
 rw[e];omega
theorem px {v:Int}(hv:I64 v):dI ((v,()),())=some (((v.natAbs:Nat):Int),())/\v.natAbs<18446744073709551616:=by
 unfold I64 at hv
 refine⟨?_,by omega⟩
 unfold dI
 dsimp only
 have hu:=bt v
 rw[show(2:Int)^64=18446744073709551616 from rfl]at hu
 rw[eI,hu]
 by_cases h:v<0
 ·rw[fv h,aE,subU]
  congr 2;omega
 ·rw[fM h,ak]
  congr 2;omega
theorem neg128 {h l p:Int}(h0:0<=h)(l0:0<=l)(l1:l<18446744073709551616)(h1:h<18446744073709551616)(e:h*18446744073709551616+l=p):
  ((-l)%18446744073709551616=0->(18446744073709551615-h+1)%18446744073709551616*18446744073709551616+(-l)%18446744073709551616=(-p)%340282366920938463463374607431768211456)/\
  (¬(-l)%18446744073709551616=0->(18446744073709551615-h)*18446744073709551616+(-l)%18446744073709551616=(-p)%340282366920938463463374607431768211456):=by
 constructor<;>intro g<;>omega
theorem uO {X Y:Int}(sg:Bool)(hX:I64 X)(hY:I64 Y):∃h l:Int,fa ((X,Y,sg,()),())=some ((h,l,()),())/\0<=h/\h<18446744073709551616/\0<=l/\l<18446744073709551616/\
  h*18446744073709551616+l=(if sg=true then X*Y else((uns X:Nat):Int)*((uns Y:Nat):Int))%340282366920938463463374607431768211456:=by
 have hwide:∀a b:Nat,a<18446744073709551616->b<18446744073709551616->∃h l:Int,eu (((a:Int),(b:Int),()),())=some ((h,l,()),())/\0<=h/\h<18446744073709551616/\0<=l/\l<18446744073709551616/\h*18446744073709551616+l=(a:Int)*(b:Int):=fun a b ha hb=>by
  refine⟨_,_,Bh ha hb,?_⟩
  have hp:a*b<18446744073709551616*18446744073709551616:=Nat.mul_lt_mul'' ha hb
  have e:(a:Int)*(b:Int)=((a*b:Nat):Int):=by simp
  have hp':((a*b:Nat):Int)<340282366920938463463374607431768211456:=Int.ofNat_lt.2 hp
  rw[e,Int.natCast_ediv,Int.natCast_emod]
  have h0:0<=((a*b:Nat):Int):=Int.natCast_nonneg _
  generalize ((a*b:Nat):Int)=p at*
  show 0<=p/18446744073709551616/\p/18446744073709551616<18446744073709551616/\0<=p%18446744073709551616/\p%18446744073709551616<18446744073709551616/\p/18446744073709551616*18446744073709551616+p%18446744073709551616=p
  omega
 have hbig:∀h l p:Int,0<=h->h<18446744073709551616->0<=l->l<18446744073709551616->h*18446744073709551616+l=p->h*18446744073709551616+l=p%340282366920938463463374607431768211456:=fun h l p a b c d e=>by omega
 unfold fa
 dsimp only
 cases sg with
 |false=>
  obtain⟨h,l,e,a1,a2,a3,a4,a5⟩:=hwide _ _ (eJ X) (eJ Y)
  rw[show aQ false=true from rfl,aE,eI,eI,e,aa,iD]
  exact⟨h,l,rfl,a1,a2,a3,a4,hbig _ _ _ a1 a2 a3 a4 a5⟩
 |true=>
  obtain⟨s1,l1⟩:=px hX
  obtain⟨s2,l2⟩:=px hY
  obtain⟨h,l,e,a1,a2,a3,a4,a5⟩:=hwide _ _ l1 l2
  rw[show aQ true=false from rfl,ak,s1,aa,s2,aa,if_pos rfl]
  dsimp only
  rw[e,aa]
  dsimp only
  have hne:aQ (eqB (ltI X 0) (ltI Y 0))=(decide (X<0) != decide (Y<0)):=by
   unfold ltI
   cases decide (X<0)<;>cases decide (Y<0)<;>rfl
  rw[hne]
  have habs:∀Z:Int,(Z.natAbs:Int)=if Z<0 then -Z else Z:=fun Z=>by split<;>omega
  rw[habs X,habs Y]at a5
  by_cases hd:(decide (X<0) != decide (Y<0))=true
  ·rw[hd,aE,subU,inotU a1 a2,Cq]
   have hp:h*18446744073709551616+l= -(X*Y):=by
    rw[a5]
    by_cases x0:X<0
    ·by_cases y0:Y<0
     ·rw[decide_eq_true x0,decide_eq_true y0]at hd;cases hd
     ·rw[if_pos x0,if_neg y0,Int.neg_mul]
    ·by_cases y0:Y<0
     ·rw[if_neg x0,if_pos y0,Int.mul_neg]
     ·rw[decide_eq_false x0,decide_eq_false y0]at hd;cases hd
   obtain⟨n1,n2⟩:=neg128 a1 a3 a4 a2 hp
   rw[Int.neg_neg]at n1 n2
   rw[Int.zero_sub]
   by_cases hz:(-l)%18446744073709551616=0
   ·rw[be hz,aE,aa,ah,aa,ah]
    exact⟨_,_,rfl,by omega,by omega,by omega,by omega,n1 hz⟩
   ·rw[aq hz,ak,aa,ah,aa,ah]
    exact⟨_,_,rfl,by omega,by omega,by omega,by omega,n2 hz⟩
  ·rw[Bool.eq_false_iff.2 hd,ak,aa,ah]
   have hp:h*18446744073709551616+l=X*Y:=by
    rw[a5]
    by_cases x0:X<0
    ·by_cases y0:Y<0
     ·rw[if_pos x0,if_pos y0,Int.neg_mul_neg]
     ·rw[decide_eq_true x0,decide_eq_false y0]at hd;exact absurd rfl hd
    ·by_cases y0:Y<0
     ·rw[decide_eq_false x0,decide_eq_true y0]at hd;exact absurd rfl hd
     ·rw[if_neg x0,if_neg y0]
   exact⟨h,l,rfl,a1,a2,a3,a4,hbig _ _ _ a1 a2 a3 a4 hp⟩
theorem zT {sg:Bool}{n:Nat}(hn:cl (n:Int)=true){a:Int}(ha:I64 a):I64 (sZ sg n a):=by
 obtain⟨h1,h8⟩:=dL hn
 unfold sZ
 split
 ·exact iF _ (by omega) _
 ·exact eM ha hn
theorem F2 {sg:Bool}{n:Nat}(hn:cl (n:Int)=true){a b:Int}(ha:I64 a)(hb:I64 b):
  (if sg=true then sZ sg n a*sZ sg n b else((uns (sZ sg n a):Nat):Int)*((uns (sZ sg n b):Nat):Int))=nE sg n a*nE sg n b:=by
 unfold sZ nE
 cases sg with
 |true=>simp only[if_true]
 |false=>
  rw[iD,iD,iD,iD,iD,cB ha hn,cB hb hn]
theorem nJ {op a b f:Int}{n:Nat}(hn:cl (n:Int)=true)(ha:I64 a)(hb:I64 b):
  cQ ((op,(n:Int),a,b,f,()),())=some (((rE op n a b f).1,(rE op n a b f).2.1,(rE op n a b f).2.2,()),()):=by
 obtain⟨h1,h8⟩:=dL hn
 unfold cQ
 dsimp only
 obtain⟨sg,hsg⟩:∃sg:Bool,sg=decide (op≠13):=⟨_,rfl⟩
 have heq:aQ (eqI op 13)=sg:=by
  rw[hsg,neI,Bool.eq_iff_iff,bne_iff_ne,decide_eq_true_eq]
 have hsx:∀v,aJ ((v,(n:Int),()),())=some (sx (8*n-1) v,()):=fun v=>by
  rw[gJ _ _ (by omega) (by omega),show(8*(n:Int)-1).toNat=8*n-1 by omega]
 rw[heq,bw ha n hn,bw hb n hn,aa,aa]
 refine(Ret.bnd (Q:=fun y=>y=Sum.inl (((n:Int),f,sg,sZ sg n a,sZ sg n b,()),())) ?_ ?_).eq
 ·cases sg with
  |true=>
   rw[aE,hsx,hsx,aa,aa]
   exact Ret.some rfl
  |false=>
   rw[ak]
   exact Ret.some rfl
 rintro _ rfl
 rw[ah]
 dsimp only
 obtain⟨h,l,e,a1,a2,a3,a4,a5⟩:=uO sg (zT (sg:=sg) hn ha) (zT (sg:=sg) hn hb)
 rw[F2 hn ha hb]at a5
 rw[e,aa]
 dsimp only
 have hul:∀z:Int,0<=z->z<18446744073709551616->((uns (aj .i64 z):Nat):Int)=z:=fun z z0 z1=>by
  unfold aj
  rw[b8,bt,show(2:Int)^64=18446744073709551616 from rfl];omega
 have hlow:bV (aj .i64 l) n=wO sg n a b:=by
  refine pB hn (au _) ?_
  rw[hul l a3 a4]
  generalize nE sg n a*nE sg n b=p at*
  rcases xN hn with rfl|rfl|rfl|rfl
  ·rw[show(2:Int)^(8*1)=256 from rfl];omega
  ·rw[show(2:Int)^(8*2)=65536 from rfl];omega
  ·rw[show(2:Int)^(8*4)=4294967296 from rfl];omega
  ·rw[show(2:Int)^(8*8)=18446744073709551616 from rfl];omega
 rw[bw (iA l) n hn,aa,hlow]
 dsimp only
 refine Ret.bnd (Q:=fun y=>y=Sum.inl (((n:Int),f,sg,wO sg n a b,od sg n a b,()),())) ?_ ?_
 ·by_cases h8':n=8
  ·subst h8'
   rw[fM,ak]
   have hh:aj .i64 h=od sg 8 a b:=by
    unfold od lG aj
    refine lY ?_
    rw[show(2:Int)^(8*8)=18446744073709551616 from rfl]
    generalize nE sg 8 a*nE sg 8 b=p at*
    omega
   rw[hh]
   exact Ret.some rfl
  ·have h3:n=1\/n=2\/n=4:=by rcases xN hn with h|h|h|h<;>omega
   rw[fv,aE,cX (a:=8),cJ,ae (fu),show 8*(n:Int)=((8*n:Nat):Int)by omega,sl _ _ (by omega),bw (iA _) n hn,aa]
   have hh:bV (aj .i64 (l/2^(8*n))) n=od sg n a b:=by
    refine pB hn (au _) ?_
    have hd0:0<=l/2^(8*n):=Int.ediv_nonneg a3 (Int.le_of_lt (Int.pow_pos (by decide)))
    have hd1:l/2^(8*n)<18446744073709551616:=Int.lt_of_le_of_lt (Int.ediv_le_self _ a3) a4
    rw[hul _ hd0 hd1]
    generalize nE sg n a*nE sg n b=p at*
    rcases h3 with rfl|rfl|rfl
    ·rw[show(2:Int)^(8*1)=256 from rfl];omega
    ·rw[show(2:Int)^(8*2)=65536 from rfl];omega
    ·rw[show(2:Int)^(8*4)=4294967296 from rfl];omega
   rw[hh]
   exact Ret.some rfl
 rintro _ rfl
 rw[ah]
 dsimp only
 refine Ret.bnd (Q:=fun y=>y=Sum.inl ((f,wO sg n a b,od sg n a b,DV sg n a b,()),())) ?_ ?_
 ·unfold DV
  cases sg with
  |true=>
   rw[aE,hsx,hsx,aa,aa,neI]
   exact Ret.some rfl
  |false=>
   rw[ak,neI]
   exact Ret.some rfl
 rintro _ rfl
 rw[ah]
 dsimp only
 rw[lm,aa]
 refine Ret.some ?_
 unfold rE
 rw[<-hsg]
theorem orU {a b:Nat}(ha:a<2^64)(hb:b<2^64):ior .u64 (a:Int) (b:Int)=((a|||b:Nat):Int):=by
 unfold ior
 rw[fh]
 have hh:∀k:Nat,k<2^64->(BitVec.ofInt 64 (k:Int)).toNat=k:=fun k hk=>by
  rw[BitVec.toNat_ofInt]
  have:((k:Int)%((2^64:Nat):Int))=((k%2^64:Nat):Int):=(Int.natCast_emod ..).symm
  rw[this,Int.toNat_natCast,Nat.mod_eq_of_lt hk]
 have e1:(BitVec.ofInt IntKind.u64.bits (a:Int)|||BitVec.ofInt IntKind.u64.bits (b:Int)).toNat=a|||b:=by
  rw[BitVec.toNat_or]
  show(BitVec.ofInt 64 (a:Int)).toNat|||(BitVec.ofInt 64 (b:Int)).toNat=_
  rw[hh _ ha,hh _ hb]
 rw[e1]
 have:a|||b<2^64:=Nat.or_lt_two_pow ha hb
 have h2:((a|||b:Nat):Int)<((2^64:Nat):Int):=Int.ofNat_lt.2 this
 exact Int.emod_eq_of_lt (by omega) h2
theorem joinU {n:Nat}(hn:n=1\/n=2\/n=4){hi lo:Int}(hh:I64 hi)(hl:I64 lo):ior .u64 (dD .u64 (aj .u64 (bV hi n)) ((8*n:Nat):Int)) (aj .u64 (bV lo n))=((nX n hi lo:Nat):Int):=by
 have hs:cl (n:Int)=true:=by rcases hn with rfl|rfl|rfl<;>rfl
 have hlt:=lC n hi lo
 have h32:2^(16*n)<=2^64:=Nat.pow_le_pow_right (by decide) (by omega)
 have hN:nX n hi lo<2^64:=Nat.lt_of_lt_of_le hlt h32
 have hH:cg hi n*2^(8*n)<2^64:=Nat.lt_of_le_of_lt (Nat.le_add_right _ _) hN
 have hL:cg lo n<2^64:=Nat.lt_of_le_of_lt (Nat.le_add_left _ _) hN
 rw[eI,eI,cB hh hs,cB hl hs,If (by omega),Nat.mod_eq_of_lt hH,orU hH hL]
 unfold nX
 rw[Nat.mul_comm,Nat.two_pow_add_eq_or_of_lt (gO lo n)]
theorem Bi {n:Nat}{hi lo:Int}(hn:cl (n:Int)=true)(hh:I64 hi)(hl:I64 lo)(sg:Bool):
  ∃h l:Int,ii (((n:Int),hi,lo,sg,()),())=some ((h,l,()),())/\0<=h/\h<18446744073709551616/\0<=l/\l<18446744073709551616/\
   h*18446744073709551616+l=(if oD sg n hi lo<0 then oD sg n hi lo+340282366920938463463374607431768211456 else oD sg n hi lo):=by
 obtain⟨h1,h8⟩:=dL hn
 unfold ii
 dsimp only
 by_cases h8':n=8
 ·subst h8'
  rw[be (by rfl),aE,eI,eI]
  have g1:=eJ hi
  have g2:=eJ lo
  refine⟨_,_,rfl,by omega,by omega,by omega,by omega,?_⟩
  have hN:=CK hi lo
  unfold oD
  rw[show(2:Nat)^(16*8-1)=170141183460469231731687303715884105728 from rfl,show(2:Int)^(16*8)=340282366920938463463374607431768211456 from rfl]
  have hlt:nX 8 hi lo<340282366920938463463374607431768211456:=lC 8 hi lo
  by_cases hc:sg=true/\170141183460469231731687303715884105728<=nX 8 hi lo
  ·rw[if_pos hc];omega
  ·rw[if_neg hc];omega
 ·have h3:n=1\/n=2\/n=4:=by rcases xN hn with h|h|h|h<;>omega
  have e8:bK .i64 8 (n:Int)=((8*n:Nat):Int):=by rw[cX (a:=8)];omega
  have e16:bK .i64 16 (n:Int)=((16*n:Nat):Int):=by rw[cX (a:=16)];omega
  have w8:aj .u64 ((8*n:Nat):Int)=((8*n:Nat):Int):=cJ
  have w16:aj .u64 ((16*n:Nat):Int)=((16*n:Nat):Int):=cJ
  have e7:aT .i64 ((8*n:Nat):Int) 1=((8*n-1:Nat):Int):=by rw[bn];omega
  have hlt:=lC n hi lo
  have h32:2^(16*n)<=2^64:=Nat.pow_le_pow_right (by decide) (by omega)
  have hN:nX n hi lo<2^64:=Nat.lt_of_lt_of_le hlt h32
  rw[aq (show(n:Int)≠8 by omega),ak,bw hh n hn,aa,e8,w8,ae (fu),bw hl n hn,aa]
  dsimp only
  rw[joinU h3 hh hl,e7,CA _ _ (by omega),aa]
  dsimp only
  rw[Fj]
  have hc:br sg (some (l7 hi (8*n-1))) (some false)=some (decide (sg=true/\2^(16*n-1)<=nX n hi lo)):=by
   cases sg with
   |false=>rfl
   |true=>
    rw[aE,kr (n:=n) (by omega)]
    have e:(cg hi n/2^(8*n-1)%2=1)↔2^(16*n-1)<=nX n hi lo:=by
     have a1:=gO hi n
     have a2:=gO lo n
     unfold nX
     rcases h3 with rfl|rfl|rfl
     ·rw[show(2:Nat)^(8*1)=256 from rfl]at*
      rw[show(2:Nat)^(8*1-1)=128 from rfl,show(2:Nat)^(16*1-1)=32768 from rfl];omega
     ·rw[show(2:Nat)^(8*2)=65536 from rfl]at*
      rw[show(2:Nat)^(8*2-1)=32768 from rfl,show(2:Nat)^(16*2-1)=2147483648 from rfl];omega
     ·rw[show(2:Nat)^(8*4)=4294967296 from rfl]at*
      rw[show(2:Nat)^(8*4-1)=2147483648 from rfl,show(2:Nat)^(16*4-1)=9223372036854775808 from rfl];omega
    simp only[e,true_and]
  rw[hc,aa]
  unfold oD
  by_cases hs:sg=true/\2^(16*n-1)<=nX n hi lo
  ·rw[decide_eq_true hs,aE,if_pos hs]
   have hI16:(2:Int)^(16*n)=((2^(16*n):Nat):Int):=(kY _).symm
   rw[hI16]
   obtain⟨N,hNe⟩:∃N,N=nX n hi lo:=⟨_,rfl⟩
   rw[<-hNe]at hlt hN hs|-
   have hneg:(N:Int)-((2^(16*n):Nat):Int)<0:=by omega
   rw[if_pos hneg]
   refine Exists.elim (p:=fun l:Nat=>(br (ltI (n:Int) 4) (br (leI 0 (aj .u64 (bK .i64 16 (n:Int)))) (some (Sum.inl (((ior .u64 (N:Int) (dD .u64 18446744073709551615 (aj .u64 (bK .i64 16 (n:Int))))),()),()):Sum ((Int×Unit)×Unit) ((Int×Int×Unit)×Unit))) none) (some (Sum.inl (((N:Int),()),()))))=some (Sum.inl (((l:Int),()),()))/\(l:Int)=(N:Int)-((2^(16*n):Nat):Int)+18446744073709551616) ?_ ?_
   ·by_cases h4:n=4
    ·subst h4
     rw[fM (by decide),ak]
     refine⟨N,rfl,?_⟩
     rw[show((2^(16*4):Nat):Int)=18446744073709551616 from rfl];omega
    ·have h12:n=1\/n=2:=by omega
     rw[fv,aE,e16,w16,ae (fu)]
     have hm:dD .u64 18446744073709551615 ((16*n:Nat):Int)=((2^64-2^(16*n):Nat):Int):=by
      have:dD .u64 ((18446744073709551615:Nat):Int) ((16*n:Nat):Int)=_:=If (a:=18446744073709551615) (s:=16*n) (by omega)
      rw[show(18446744073709551615:Int)=((18446744073709551615:Nat):Int)from rfl,this]
      rcases h12 with rfl|rfl<;>decide +kernel
     have hor:N|||(2^64-2^(16*n))=N+(2^64-2^(16*n)):=by
      obtain⟨t,ht⟩:∃t,2^64-2^(16*n)=2^(16*n)*t:=⟨2^(64-16*n)-1,by rw[Nat.mul_sub,<-Nat.pow_add,show 16*n+(64-16*n)=64 by omega,Nat.mul_one]⟩
      rw[ht,Nat.or_comm,<-Nat.two_pow_add_eq_or_of_lt hlt,Nat.add_comm]
     rw[hm,orU hN (by have:=Nat.two_pow_pos (16*n);omega),hor]
     refine⟨_,rfl,?_⟩
     have h64:(2:Nat)^64=18446744073709551616:=rfl
     rw[h64]at h32|-
     generalize 2^(16*n)=P at*
     omega
   ·rintro l ⟨el,hl2⟩
    rw[el,aa,ah]
    have hlo0:0<=(l:Int):=by omega
    refine⟨18446744073709551615,(l:Int),rfl,by omega,by omega,by omega,?_,?_⟩
    ·omega
    ·omega
  ·rw[decide_eq_false hs,ak,if_neg hs,iN]
   refine⟨0,_,rfl,by omega,by omega,by omega,?_,by omega⟩
   have:((nX n hi lo:Nat):Int)<((2^64:Nat):Int):=Int.ofNat_lt.2 hN
   exact this
set_option linter.unusedVariables false
theorem negA {h l p:Int}(h0:0<=h)(l0:0<=l)(l1:l<18446744073709551616)(h1:h<18446744073709551616)(e:h*18446744073709551616+l=p+340282366920938463463374607431768211456)(hp: -170141183460469231731687303715884105728<=p)(hp0:p<0):
  ((-l)%18446744073709551616=0->(18446744073709551615-h+1)%18446744073709551616*18446744073709551616+(-l)%18446744073709551616= -p)/\
  (¬(-l)%18446744073709551616=0->(18446744073709551615-h)*18446744073709551616+(-l)%18446744073709551616= -p):=by
 constructor<;>intro g<;>omega
theorem topH {h l X:Int}(h0:0<=h)(h1:h<18446744073709551616)(l0:0<=l)(l1:l<18446744073709551616)(hX: -170141183460469231731687303715884105728<=X)(hX2:X<170141183460469231731687303715884105728)
  (e:h*18446744073709551616+l=(if X<0 then X+340282366920938463463374607431768211456 else X)):h/9223372036854775808=1↔X<0:=by
 split at e<;>omega
theorem FV {n:Nat}(hn:cl (n:Int)=true)(hi lo:Int):oD true n hi lo<170141183460469231731687303715884105728:=by
 have hlt:=lC n hi lo
 unfold oD
 generalize nX n hi lo=N at*
 rcases xN hn with rfl|rfl|rfl|rfl
 ·rw[show(2:Nat)^(16*1)=65536 from rfl]at hlt
  rw[show(2:Nat)^(16*1-1)=32768 from rfl,show(2:Int)^(16*1)=65536 from rfl]
  split<;>omega
 ·rw[show(2:Nat)^(16*2)=4294967296 from rfl]at hlt
  rw[show(2:Nat)^(16*2-1)=2147483648 from rfl,show(2:Int)^(16*2)=4294967296 from rfl]
  split<;>omega
 ·rw[show(2:Nat)^(16*4)=18446744073709551616 from rfl]at hlt
  rw[show(2:Nat)^(16*4-1)=9223372036854775808 from rfl,show(2:Int)^(16*4)=18446744073709551616 from rfl]
  split<;>omega
 ·rw[show(2:Nat)^(16*8)=340282366920938463463374607431768211456 from rfl]at hlt
  rw[show(2:Nat)^(16*8-1)=170141183460469231731687303715884105728 from rfl,show(2:Int)^(16*8)=340282366920938463463374607431768211456 from rfl]
  split
  ·omega
  ·rename_i g
   have:¬170141183460469231731687303715884105728<=N:=fun z=>g ⟨rfl,z⟩
   omega
theorem DY {n:Nat}(hn:cl (n:Int)=true)(t:Bool){q:Nat}(hq:q<18446744073709551616):bV (aj .i64 (if t=true then aT .u64 0 (q:Int)else(q:Int))) n=lG n (negI t q):=by
 have h8:=(dL hn).2
 refine pB hn (iA _) ?_
 unfold aj negI
 rw[b8,bt,Int.emod_emod_of_dvd _ (by have:=CS h8;exact this)]
 cases t with
 |false=>rw[iD,iD]
 |true=>
  rw[if_pos rfl,if_pos rfl,subU,Int.emod_emod_of_dvd _ (CS h8),Int.zero_sub]
theorem wF {op hi lo d:Int}{n:Nat}(hn:cl (n:Int)=true)(hh:I64 hi)(hl:I64 lo)(hd:I64 d):
  ∃q r:Int,dY ((op,(n:Int),hi,lo,d,()),())=some ((q,r,(uk op n hi lo d).2.2,()),())/\((uk op n hi lo d).2.2=true->q=(uk op n hi lo d).1/\r=(uk op n hi lo d).2.1):=by
 obtain⟨h1,h8⟩:=dL hn
 obtain⟨sg,hsg⟩:∃sg:Bool,sg=decide (op=16):=⟨_,rfl⟩
 have heq:eqI op 16=sg:=by rw[hsg];rfl
 suffices hsuf:Ret (dY ((op,(n:Int),hi,lo,d,()),())) (fun y=>∃q r:Int,y=((q,r,(uk op n hi lo d).2.2,()),())/\((uk op n hi lo d).2.2=true->q=(uk op n hi lo d).1/\r=(uk op n hi lo d).2.1))by
  obtain⟨y,e,q,r,rfl,g⟩:=hsuf
  exact⟨q,r,e,g⟩
 unfold dY
 dsimp only
 rw[heq]
 obtain⟨h,l,e1,a1,a2,a3,a4,hX⟩:=Bi hn hh hl sg
 have hxb:=CL (sg:=sg) hn hi lo
 have hxt:sg=true->oD sg n hi lo<170141183460469231731687303715884105728:=fun g=>by rw[g];exact FV hn hi lo
 unfold uk
 rw[<-hsg]
 obtain⟨X,hXe⟩:∃X,X=oD sg n hi lo:=⟨_,rfl⟩
 obtain⟨D,hDe⟩:∃D,D=nE sg n d:=⟨_,rfl⟩
 have hDb:=HQ sg hn d
 rw[<-hXe]at hX hxb hxt
 rw[<-hDe]at hDb
 rw[<-hXe,<-hDe]
 obtain⟨q,hq⟩:∃q,q=X.natAbs/D.natAbs:=⟨_,rfl⟩
 obtain⟨r,hr⟩:∃r,r=X.natAbs%D.natAbs:=⟨_,rfl⟩
 rw[<-hq,<-hr,e1,aa,bw hd n hn,aa]
 dsimp only
 have hsx:aJ ((d,(n:Int),()),())=some (sx (8*n-1) d,()):=by
  rw[gJ _ _ (by omega) (by omega),show(8*(n:Int)-1).toNat=8*n-1 by omega]
 have hsxI:=iF (8*n-1) (by omega) d
 refine Ret.bnd (Q:=fun y=>y=Sum.inl (((n:Int),sg,h,l,((D.natAbs:Nat):Int),decide (X<0),Cf X D,()),())/\D.natAbs<18446744073709551616) ?_ ?_
 ·cases sg with
  |true=>
   obtain⟨z1,z2⟩:=px hsxI
   rw[aE,hsx,aa]
   rw[z1,aa,aa]
   have hD:D=sx (8*n-1) d:=by rw[hDe];exact if_pos rfl
   rw[Dy]
   have ht:=topH a1 a2 a3 a4 hxb.1 (hxt rfl) hX
   have e2:eqI (h/9223372036854775808) 1=decide (X<0):=by
    unfold eqI;rw[Bool.eq_iff_iff,decide_eq_true_eq,decide_eq_true_eq];exact ht
   have e3:aQ (eqB (decide (X<0)) (ltI (sx (8*n-1) d) 0))=Cf X D:=by
    rw[hD]
    unfold Cf ltI
    cases decide (X<0)<;>cases decide (sx (8*n-1) d<0)<;>rfl
   dsimp only
   rw[e2,e3]
   exact Ret.some ⟨by rw[hD],by rw[hD];exact z2⟩
  |false=>
   have hD:D=(cg d n:Int):=by rw[hDe];exact iD
   have hX0:=hxb.2.2 rfl
   have hu:=eJ d
   have hle:cg d n<=uns d:=Nat.mod_le _ _
   rw[ak,eI,cB hd hn]
   have e3:Cf X D=false:=by
    unfold Cf
    rw[dF,dF];rfl
   rw[e3,dF,hD,Int.natAbs_natCast]
   exact Ret.some ⟨rfl,by omega⟩
 rintro _ ⟨rfl,hDlt⟩
 rw[ah]
 dsimp only[p5,p6]
 refine Ret.bnd (Q:=fun y=>∃h' l':Nat,h'<18446744073709551616/\l'<18446744073709551616/\h'*18446744073709551616+l'=X.natAbs/\y=Sum.inl (((n:Int),sg,(h':Int),(l':Int),((D.natAbs:Nat):Int),decide (X<0),Cf X D,()),())) ?_ ?_
 ·have fin:∀h' l':Int,0<=h'->h'<18446744073709551616->0<=l'->l'<18446744073709551616->h'*18446744073709551616+l'=((X.natAbs:Nat):Int)->∃a b:Nat,a<18446744073709551616/\b<18446744073709551616/\a*18446744073709551616+b=X.natAbs/\h'=(a:Int)/\l'=(b:Int):=fun h' l' b1 b2 b3 b4 b5=>⟨h'.toNat,l'.toNat,by omega,by omega,by omega,by omega,by omega⟩
  by_cases hx:X<0
  ·rw[decide_eq_true hx,aE,subU,inotU a1 a2,Cq,Int.zero_sub]
   rw[if_pos hx]at hX
   obtain⟨n1,n2⟩:=negA a1 a3 a4 a2 hX hxb.1 hx
   refine Ret.bnd (Q:=fun y=>∃h' l':Nat,h'<18446744073709551616/\l'<18446744073709551616/\h'*18446744073709551616+l'=X.natAbs/\y=Sum.inl (((n:Int),sg,(h':Int),(l':Int),((D.natAbs:Nat):Int),true,Cf X D,()),())) ?_ (by rintro _ ⟨h',l',g1,g2,g3,rfl⟩;rw[ah];exact Ret.some ⟨h',l',g1,g2,g3,rfl⟩)
   by_cases hz:(-l)%18446744073709551616=0
   ·obtain⟨a,b,g1,g2,g3,g4,g5⟩:=fin _ _ (by omega) (by omega) (by omega) (by omega) ((n1 hz).trans (by omega))
    rw[be hz,aE,g4,g5]
    exact Ret.some ⟨a,b,g1,g2,g3,rfl⟩
   ·obtain⟨a,b,g1,g2,g3,g4,g5⟩:=fin _ _ (by omega) (by omega) (by omega) (by omega) ((n2 hz).trans (by omega))
    rw[aq hz,ak,g4,g5]
    exact Ret.some ⟨a,b,g1,g2,g3,rfl⟩
  ·rw[if_neg hx]at hX
   obtain⟨a,b,g1,g2,g3,g4,g5⟩:=fin h l a1 a2 a3 a4 (hX.trans (by omega))
   rw[decide_eq_false hx,ak,g4,g5]
   exact Ret.some ⟨a,b,g1,g2,g3,rfl⟩
 rintro _ ⟨h',l',b1,b2,hM,rfl⟩
 rw[ah]
 dsimp only[p5,p6]
 by_cases hov:D.natAbs<=h'
 ·have hb:v7 X.natAbs D.natAbs=true:=dT
  rw[fu,aE]
  unfold HN
  rw[if_pos hb]
  exact Ret.some ⟨0,0,rfl,fun g=>by cases g⟩
 have hb:¬v7 X.natAbs D.natAbs=true:=fun g=>by
  have:=of_decide_eq_true g
  omega
 rw[j9,ak,wB (by omega) hDlt b2,aa,hM,<-hq,<-hr]
 dsimp only
 have hq64:q<18446744073709551616:=by rw[hq];exact Nat.div_lt_of_lt_mul (by omega)
 have hr64:r<18446744073709551616:=by
  rw[hr]
  have:X.natAbs%D.natAbs<D.natAbs:=Nat.mod_lt _ (by omega)
  omega
 have hrD:r<D.natAbs:=by rw[hr];exact Nat.mod_lt _ (by omega)
 have hDn:sg=false->D.natAbs<2^(8*n):=fun g=>by
  have h5:=hDb.2.1
  have h6:=hDb.2.2.2 g
  have:((D.natAbs:Nat):Int)<((2^(8*n):Nat):Int):=by rw[kY];omega
  exact Int.ofNat_lt.1 this
 clear hov hXe hDe hq hr hM hxb hxt hDb hX e1
 have e8:bK .i64 8 (n:Int)=((8*n:Nat):Int):=by rw[cX (a:=8)];omega
 have w8:aj .u64 ((8*n:Nat):Int)=((8*n:Nat):Int):=cJ
 have e7:aT .i64 ((8*n:Nat):Int) 1=((8*n-1:Nat):Int):=by rw[bn];omega
 have w7:aj .u64 ((8*n-1:Nat):Int)=((8*n-1:Nat):Int):=cJ
 rw[e8,w8,e7,w7]
 cases sg with
 |false=>
  rw[show aQ false=true from rfl,aE,ae (show leI 0 ((8*n:Nat):Int)=true from fu),BJ (by omega)]
  have hok:br (eqI (n:Int) 8) (some true) (some (eqI ((q/2^(8*n):Nat):Int) 0))=some (decide (q<2^(8*n))):=by
   by_cases g:n=8
   ·subst g
    rw[be (by rfl),aE,decide_eq_true (by exact hq64)]
   ·rw[aq,ak]
    congr 1
    unfold eqI
    rw[Bool.eq_iff_iff,decide_eq_true_eq,decide_eq_true_eq]
    have hp:=Nat.two_pow_pos (8*n)
    rw[show(((q/2^(8*n):Nat):Int)=0)↔q/2^(8*n)=0 from by omega,Nat.div_eq_zero_iff_lt hp]
  rw[hok,aa]
  unfold HN
  rw[if_neg hb,if_pos rfl]
  dsimp only
  refine Ret.some ⟨_,_,rfl,fun g=>?_⟩
  have gq:=of_decide_eq_true g
  have gr:r<2^(8*n):=Nat.lt_trans hrD (hDn rfl)
  have hw:∀z:Nat,z<2^(8*n)->aj .i64 (z:Int)=lG n (z:Int):=fun z hz=>by
   unfold lG aj
   have:(z:Int)%2^(8*n)=(z:Int):=by rw[<-kY,<-Int.natCast_emod,Nat.mod_eq_of_lt hz]
   rw[this]
  exact⟨hw q gq,hw r gr⟩
 |true=>
  rw[show aQ true=false from rfl,ak,ae (show leI 0 ((8*n-1:Nat):Int)=true from fu)]
  have hlim:dD .u64 1 ((8*n-1:Nat):Int)=((2^(8*n-1):Nat):Int):=by
   have:dD .u64 ((1:Nat):Int) ((8*n-1:Nat):Int)=_:=If (a:=1) (s:=8*n-1) (by omega)
   rw[show(1:Int)=((1:Nat):Int)from rfl,this,Nat.one_mul,Nat.mod_eq_of_lt]
   have:2^(8*n-1)<2^64:=Nat.pow_lt_pow_right (by decide) (by omega)
   exact this
  rw[hlim]
  obtain⟨t,ht⟩:∃t:Bool,t=Cf X D:=⟨_,rfl⟩
  unfold HN
  rw[if_neg hb,if_neg (show ¬true=false by decide),<-ht]
  obtain⟨P,hP⟩:∃P,P=2^(8*n-1):=⟨_,rfl⟩
  have hcond:br (ltI ((2^(8*n-1):Nat):Int) (q:Int)) (some true) (bnd (br (eqI (q:Int) ((2^(8*n-1):Nat):Int)) (some (aQ t)) (some false)) (fun x15=>some x15))=some (v8 t n q):=by
   unfold v8
   rw[<-hP]
   by_cases g:P<q
   ·rw[fv,aE]
    cases t with
    |true=>rw[if_pos rfl,decide_eq_true g]
    |false=>rw[iD,dT]
   ·rw[fM,ak]
    by_cases g2:q=P
    ·rw[be,aE,aa]
     cases t with
     |true=>rw[if_pos rfl,decide_eq_false g];rfl
     |false=>rw[iD,dT];rfl
    ·rw[aq,ak,aa]
     cases t with
     |true=>rw[if_pos rfl,decide_eq_false g]
     |false=>rw[iD,dF]
  rw[hcond,aa]
  by_cases ho:v8 t n q=true
  ·rw[ho,aE,if_pos rfl]
   exact Ret.some ⟨0,0,rfl,fun g=>by cases g⟩
  ·rw[Bool.eq_false_iff.2 ho,ak,iD]
   refine Ret.bnd (Q:=fun y=>y=Sum.inl (((n:Int),decide (X<0),(if t=true then aT .u64 0 (q:Int)else(q:Int)),(r:Int),()),())) ?_ ?_
   ·cases t with
    |true=>rw[aE];exact Ret.some rfl
    |false=>rw[ak];exact Ret.some rfl
   rintro _ rfl
   rw[ah]
   dsimp only
   refine Ret.bnd (Q:=fun y=>y=Sum.inl (((n:Int),(if t=true then aT .u64 0 (q:Int)else(q:Int)),(if decide (X<0)=true then aT .u64 0 (r:Int)else(r:Int)),()),())) ?_ ?_
   ·cases decide (X<0)with
    |true=>rw[aE];exact Ret.some rfl
    |false=>rw[ak];exact Ret.some rfl
   rintro _ rfl
   rw[ah]
   dsimp only
   rw[bw (iA _) n hn,bw (iA _) n hn,aa,aa,DY hn _ hq64,DY hn _ hr64]
   exact Ret.some ⟨_,_,rfl,fun _=>⟨rfl,rfl⟩⟩
noncomputable section
theorem nY (m:List Page)(a p:Int):∀(n:Nat) (k:Int),dg m a p n k=0\/dg m a p n k=13\/dg m a p n k=14
 |0,k=> .inl rfl
 |n+1,k=>by
  have ih:=nY m a p n (k+1)
  unfold dg
  split
  ·exact .inr (.inl rfl)
  ·split
   ·exact .inr (.inr rfl)
   ·exact ih
def kX (m:List Page)(a:Int)(n:Nat)(v:Int):List Page×Int:=
 match cC (((m,()),a,(n:Int),v,()),())with
 |some x=>(x.2.1,x.1.2.1)
 |none=>(m,0)
theorem vw (m:List Page)(hm:MemT m)(a v:Int)(n:Nat)(hn:cl (n:Int)=true)(ha:I64 a):
  cC (((m,()),a,(n:Int),v,()),())=some (((),(kX m a n v).2,()),(kX m a n v).1,())/\
   ((((kX m a n v).2=13\/(kX m a n v).2=14)/\(kX m a n v).1=m/\(kX m a n v).2=dg m a 2 n 0/\dg m a 2 n 0≠0)\/((kX m a n v).2=0/\dg m a 2 n 0=0/\Laid m a (leB v n) n (kX m a n v).1)):=by
 obtain⟨n1,n8⟩:=dL hn
 have hl:=hm.len
 have key:∃x e,cC (((m,()),a,(n:Int),v,()),())=some (((),e,()),x,())/\
   (((e=13\/e=14)/\x=m/\e=dg m a 2 n 0/\dg m a 2 n 0≠0)\/(e=0/\dg m a 2 n 0=0/\Laid m a (leB v n) n x)):=by
  unfold cC
  dsimp only
  rw[kz m hm.r a 2 n (by omega) ha (by decide) n1,aa]
  dsimp only
  by_cases hf:dg m a 2 n 0=0
  ·have hok:=lN hm.r n 0 hf
   have hok:∀k,k<(leB v n).length->¬fnd m (a+(k:Nat))<0:=fun k hk=>hok k (Nat.zero_le _) (by rw[py]at hk;omega)
   obtain⟨x,hx1,hx2⟩:=HY m hm a (leB v n) ha (by rw[py];omega) hok
   rw[py]at hx2
   refine⟨x,0,?_,.inr ⟨rfl,hf,hx2⟩⟩
   rw[hf,be rfl,bE,ak,DG v n n8,aa,hx1,aa]
  ·refine⟨m,dg m a 2 n 0,?_,.inl ⟨by rcases nY m a 2 n 0 with h|h|h;exact absurd h hf;exact .inl h;exact .inr h,rfl,rfl,hf⟩⟩
   rw[aq hf,bU,aE,nV m (by omega),aa]
 obtain⟨x,e,h1,h2⟩:=key
 unfold kX
 rw[h1]
 exact⟨rfl,h2⟩
theorem Hr {m:List Page}(hm:MemT m){a v:Int}{n:Nat}(hn:cl (n:Int)=true)(ha:I64 a):MemT (kX m a n v).1:=by
 rcases(vw m hm a v n hn ha).2 with ⟨_,h,_⟩|⟨_,_,h⟩
 ·rw[h];exact hm
 ·exact h.memT hm
theorem wH (m:List Page)(a:Int)(n:Nat):I64 (k6 m a n).1:=by
 unfold k6
 split
 ·exact au _
 ·unfold I64;dsimp only;omega
structure MS where
 g:List Int
 m:List Page
 code:Int
 l:List Acc
abbrev TM:=(List Int×Int×Int×Int×Int×Unit)×List Page×List Acc×Unit
def MS.t (s:MS)(rip fl nx:Int):TM:=((s.g,rip,fl,nx,s.code,()),s.m,s.l,())
abbrev rg (g:List Int)(i:Int):Int:=aR g i (az .i)
def iH (g:List Int):Prop:=∀i,I64 (rg g i)
structure MS.ok (s:MS)(k:Nat):Prop where
 m:MemT s.m
 l:s.l.length<=k
 g:iH s.g
theorem MS.ok.mono {s:MS}{k j:Nat}(h:s.ok k)(hk:k<=j):s.ok j:=⟨h.m,Nat.le_trans h.l hk,h.g⟩
def MS.ld (s:MS)(a:Int)(n:Nat):Int×MS:=
 if s.code≠0 then(0,s)else((k6 s.m a n).1,{s with code:=(k6 s.m a n).2,l:=s.l++[Acc.mk 1 a n (k6 s.m a n).1]})
def MS.st (s:MS)(a:Int)(n:Nat)(v:Int):MS:=
 if s.code≠0 then s else {s with m:=(kX s.m a n v).1,code:=(kX s.m a n v).2,l:=s.l++[Acc.mk 2 a n (bV v n)]}
theorem F5 {α:Type}{xs:List α}{x:α}(h:xs.length<=1000):fL xs [x]=true:=by
 exact gA (by simp;omega)
theorem DJ {s:MS}{k:Nat}(hs:s.ok k)(hk:k<=1000){a:Int}(ha:I64 a){n:Nat}(hn:cl (n:Int)=true)(rip fl nx:Int):
  aN ((a,(n:Int),()),s.t rip fl nx)=some ((s.ld a n).1,(s.ld a n).2.t rip fl nx):=by
 obtain⟨n1,n8⟩:=dL hn
 unfold aN MS.t MS.ld
 dsimp only
 by_cases hc:s.code=0
 ·rw[hc,if_neg (by simp),be rfl,bE,ak,pU _ hs.m.r a n n1 n8 ha,aa]
  dsimp only
  rw[F5 (Nat.le_trans hs.l hk),aE]
  rfl
 ·rw[if_pos hc,aq hc,bU,aE]
theorem zj {s:MS}{k:Nat}(hs:s.ok k)(hk:k<=1000){a v:Int}(ha:I64 a){n:Nat}(hn:cl (n:Int)=true)(rip fl nx:Int):
  aF ((a,(n:Int),v,()),s.t rip fl nx)=some ((),(s.st a n v).t rip fl nx):=by
 unfold aF MS.t MS.st
 dsimp only
 by_cases hc:s.code=0
 ·rw[hc,if_neg (by simp),be rfl,bE,ak,(vw _ hs.m a v n hn ha).1,aa,bQ v n hn,aa]
  dsimp only
  rw[F5 (Nat.le_trans hs.l hk),aE]
  rfl
 ·rw[if_pos hc,aq hc,bU,aE]
theorem MS.ok.ld {s:MS}{k:Nat}(hs:s.ok k)(a:Int)(n:Nat):(s.ld a n).2.ok (k+1)/\I64 (s.ld a n).1/\(s.ld a n).2.g=s.g/\(s.ld a n).2.m=s.m:=by
 unfold MS.ld
 split
 ·exact⟨hs.mono (Nat.le_succ k),by unfold I64;dsimp only;omega,rfl,rfl⟩
 ·exact⟨⟨hs.m,by simp;exact hs.l,hs.g⟩,wH ..,rfl,rfl⟩
theorem MS.ok.st {s:MS}{k:Nat}(hs:s.ok k){a:Int}(ha:I64 a){n:Nat}(hn:cl (n:Int)=true)(v:Int):(s.st a n v).ok (k+1)/\(s.st a n v).g=s.g:=by
 unfold MS.st
 split
 ·exact⟨hs.mono (Nat.le_succ k),rfl⟩
 ·exact⟨⟨Hr hs.m hn ha,by simp;exact hs.l,hs.g⟩,rfl⟩
def setA (g:List Int)(i v:Int):List Int:=cF (dW 16 (az .i) g) i v
def lj (g:List Int)(r:Int)(n:Nat):Int:=if 16<=r then bV (cu .i64 (rg g (r-16)) 8) 1 else bV (rg g r) n
def qd (g:List Int)(r:Int)(n:Nat)(v:Int):List Int:=
 if 16<=r then setA g (r-16) (ior .i64 (gP .i64 (rg g (r-16)) 65280) (dD .i64 (bV v 1) 8))
 else if 4<=n then setA g r (bV v n)
 else setA g r (aB .i64 (rg g r) (aT .i64 (bV v n) (bV (rg g r) n)))
theorem iH.setA {g:List Int}(h:iH g){i v:Int}(hv:I64 v):iH (setA g i v):=by
 intro j
 have h0:∀k:Nat,I64 (((dW 16 (az .i) g)).getD k (az .i)):=fun k=>by
  unfold dW
  rw[List.getD_eq_getElem?_getD,List.getElem?_append]
  split
  ·have:=h (k:Int)
   unfold rg aR at this
   rw[Int.toNat_natCast,List.getD_eq_getElem?_getD]at this
   exact this
  ·rw[List.getElem?_replicate]
   split
   ·exact(by unfold I64;decide:I64 (0:Int))
   ·exact(by unfold I64;decide:I64 (0:Int))
 unfold rg aR Go.Den.G.setA cF
 rw[List.getD_eq_getElem?_getD,List.getElem?_set]
 split
 ·split
  ·exact hv
  ·exact(by unfold I64;decide:I64 (0:Int))
 ·have:=h0 j.toNat
  rw[List.getD_eq_getElem?_getD]at this
  exact this
theorem uC {g:List Int}(h:iH g){r:Int}{n:Nat}(hn:cl (n:Int)=true):I64 (lj g r n):=by
 unfold lj
 split
 ·exact eM (by
   have:=h (r-16)
   unfold I64 at this|-
   unfold cu
   rw[show(2:Int)^min (Int.toNat 8) IntKind.i64.bits=256 from rfl,Int.fdiv_eq_ediv_of_nonneg _ (by decide)]
   omega) (by rfl)
 ·exact eM (h r) hn
theorem lF {g:List Int}(h:iH g){r v:Int}(hv:I64 v){n:Nat}(hn:cl (n:Int)=true):iH (qd g r n v):=by
 unfold qd
 split
 ·exact h.setA (ly ..)
 ·split
  ·exact h.setA (eM hv hn)
  ·exact h.setA (au _)
theorem jM (r:Int):aC ((r,()),())=some (decide (16<=r/\r<=19),()):=by
 unfold aC
 dsimp only
 rw[mY,aa]
 congr 2
 unfold inB
 rw[Bool.eq_iff_iff]
 simp
def nC (g:List Int)(nx:Int)(o:Opd):Int:=
 let a:=if o.base=16 then aB .i64 o.disp nx else if 0<=o.base then aB .i64 o.disp (rg g o.base)else o.disp
 if 0<=o.index then aB .i64 a (bK .i64 (rg g o.index) o.scale)else a
structure OpV (o:Opd)(z:Int):Prop where
 r:o.kind≠2->(o.kind=1->r8 o.reg z)
 b:o.kind=2->o.base<=16/\o.index<=15
 d:I64 o.disp
 i:I64 o.imm
theorem l6 {g:List Int}{nx:Int}{o:Opd}{z:Int}(h:OpV o z):I64 (nC g nx o):=by
 unfold nC
 dsimp only
 split
 ·exact au _
 ·split
  ·exact au _
  ·split
   ·exact au _
   ·exact h.d
def MS.rd (s:MS)(nx:Int)(o:Opd)(n:Nat):Int×MS:=
 if o.kind=1 then(lj s.g o.reg n,s)else if o.kind=2 then s.ld (nC s.g nx o) n else(o.imm,s)
def MS.wr (s:MS)(nx:Int)(o:Opd)(n:Nat)(v:Int):MS:=
 if o.kind=2 then s.st (nC s.g nx o) n v else {s with g:=qd s.g o.reg n v}
theorem Ia {s:MS}{k:Nat}(hs:s.ok k)(hk:k<=1000){o:Opd}{n:Nat}(hn:cl (n:Int)=true)(hv:OpV o n)(rip fl nx:Int):
  aw ((c9 o (),(n:Int),()),s.t rip fl nx)=some ((s.rd nx o n).1,(s.rd nx o n).2.t rip fl nx):=by
 unfold aw
 dsimp only[c9,p5,p6]
 have hI:=l6 (g:=s.g) (nx:=nx) hv
 have hl:=DJ hs hk hI hn rip fl nx
 by_cases h1:o.kind=1
 ·have hr:=hv.r (by omega) h1
  unfold MS.rd
  rw[if_pos h1,be h1,aE,jM,aa]
  unfold r8 at hr
  dsimp only
  unfold lj MS.t
  by_cases h16:16<=o.reg
  ·rw[decide_eq_true ⟨h16,by omega⟩,aE,if_pos h16,bn,ae (cA),show(1:Int)=((1:Nat):Int)from rfl,bQ _ 1 rfl,aa]
  ·rw[dF,ak,if_neg h16,ae (cA),bQ _ n hn,aa]
 ·rw[aq h1,ak]
  by_cases h2:o.kind=2
  ·have hb:=hv.b h2
   unfold MS.rd
   rw[if_neg h1,if_pos h2,be h2,aE]
   have hg:=(hs.ld (nC s.g nx o) n).2.2.1
   have hfin:∀a:Int,a=nC s.g nx o->(bnd (aN ((a,(n:Int),()),s.t rip fl nx)) (fun x5=>some (x5.1,(s.g,rip,fl,nx,x5.2.1.2.2.2.2),x5.2.2)))=some ((s.ld (nC s.g nx o) n).1,(s.ld (nC s.g nx o) n).2.t rip fl nx):=by
    rintro _ rfl
    rw[hl,aa]
    unfold MS.t
    dsimp only
    rw[hg]
   unfold MS.t at hfin|-
   dsimp only
   by_cases b16:o.base=16
   ·rw[be b16,aE]
    by_cases hi:0<=o.index
    ·rw[ae (fu hi),ae (cA hi (by omega))]
     exact hfin _ (by unfold nC;dsimp only;rw[if_pos b16,if_pos hi])
    ·rw[ag (j9 hi)]
     exact hfin _ (by unfold nC;dsimp only;rw[if_pos b16,if_neg hi])
   ·rw[aq b16,ak]
    by_cases hb0:0<=o.base
    ·rw[ae (fu hb0),ae (cA hb0 (by omega))]
     by_cases hi:0<=o.index
     ·rw[ae (fu hi),ae (cA hi (by omega))]
      exact hfin _ (by unfold nC;dsimp only;rw[if_neg b16,if_pos hb0,if_pos hi])
     ·rw[ag (j9 hi)]
      exact hfin _ (by unfold nC;dsimp only;rw[if_neg b16,if_pos hb0,if_neg hi])
    ·rw[ag (j9 hb0)]
     by_cases hi:0<=o.index
     ·rw[ae (fu hi),ae (cA hi (by omega))]
      exact hfin _ (by unfold nC;dsimp only;rw[if_neg b16,if_neg hb0,if_pos hi])
     ·rw[ag (j9 hi)]
      exact hfin _ (by unfold nC;dsimp only;rw[if_neg b16,if_neg hb0,if_neg hi])
  ·unfold MS.rd
   rw[if_neg h1,if_neg h2,aq h2,ak]
theorem set_m {g:List Int}{r v:Int}{n:Nat}(hn:cl (n:Int)=true)(hr:r8 r n){α:Type}(Z:List Int->Option α):
  (bnd (aC ((r,()),())) (fun x8=>br x8.1 (br (inR (aT .i64 r 16) 16) (bnd (af ((v,1,()),())) (fun x9=>Z (cF (dW 16 (az .i) g) (aT .i64 r 16) (ior .i64 (gP .i64 (aR g (aT .i64 r 16) (az .i)) 65280) (dD .i64 x9.1 8))))) none) (br (leI 4 (n:Int)) (bnd (af ((v,(n:Int),()),())) (fun x10=>br (inR r 16) (Z (cF (dW 16 (az .i) g) r x10.1)) none)) (br (inR r 16) (br (inR r 16) (bnd (af ((v,(n:Int),()),())) (fun x11=>bnd (af (((aR g r (az .i)),(n:Int),()),())) (fun x12=>br (inR r 16) (Z (cF (dW 16 (az .i) g) r (aB .i64 (aR g r (az .i)) (aT .i64 x11.1 x12.1)))) none))) none) none))))=Z (qd g r n v):=by
 unfold r8 at hr
 rw[jM,aa]
 dsimp only
 unfold qd Go.Den.G.setA
 by_cases h16:16<=r
 ·rw[decide_eq_true ⟨h16,by omega⟩,aE,if_pos h16,bn,ae (cA),show(1:Int)=((1:Nat):Int)from rfl,bQ _ 1 rfl,aa]
 ·rw[dF,ak,if_neg h16]
  have hin:inR r 16=true:=cA
  by_cases h4:4<=n
  ·rw[ae (fu),bQ _ n hn,aa,hin,aE,if_pos h4]
  ·rw[ag (j9),hin,aE,aE,bQ _ n hn,bQ _ n hn,aa,aa,aE,if_neg h4]
theorem write_m {s:MS}{k:Nat}(hs:s.ok k)(hk:k<=1000){o:Opd}{n:Nat}{v:Int}(hn:cl (n:Int)=true)(hv:OpV o n)(h0:o.kind=1\/o.kind=2)(rip fl nx:Int):
  ar ((c9 o (),(n:Int),v,()),s.t rip fl nx)=some ((),(s.wr nx o n v).t rip fl nx):=by
 unfold ar
 dsimp only[c9,p5,p6]
 have hI:=l6 (g:=s.g) (nx:=nx) hv
 have hl:=zj hs hk (v:=v) hI hn rip fl nx
 by_cases h2:o.kind=2
 ·have hb:=hv.b h2
  unfold MS.wr
  rw[if_pos h2,be h2,aE]
  have hg:=(hs.st (v:=v) hI hn).2
  have hfin:∀a:Int,a=nC s.g nx o->(bnd (aF ((a,(n:Int),v,()),s.t rip fl nx)) (fun x5=>some ((),(s.g,rip,fl,nx,x5.2.1.2.2.2.2),x5.2.2)))=some ((),(s.st (nC s.g nx o) n v).t rip fl nx):=by
   rintro _ rfl
   rw[hl,aa]
   unfold MS.t
   dsimp only
   rw[hg]
  unfold MS.t at hfin|-
  dsimp only
  by_cases b16:o.base=16
  ·rw[be b16,aE]
   by_cases hi:0<=o.index
   ·rw[ae (fu hi),ae (cA hi (by omega))]
    exact hfin _ (by unfold nC;dsimp only;rw[if_pos b16,if_pos hi])
   ·rw[ag (j9 hi)]
    exact hfin _ (by unfold nC;dsimp only;rw[if_pos b16,if_neg hi])
  ·rw[aq b16,ak]
   by_cases hb0:0<=o.base
   ·rw[ae (fu hb0),ae (cA hb0 (by omega))]
    by_cases hi:0<=o.index
    ·rw[ae (fu hi),ae (cA hi (by omega))]
     exact hfin _ (by unfold nC;dsimp only;rw[if_neg b16,if_pos hb0,if_pos hi])
    ·rw[ag (j9 hi)]
     exact hfin _ (by unfold nC;dsimp only;rw[if_neg b16,if_pos hb0,if_neg hi])
   ·rw[ag (j9 hb0)]
    by_cases hi:0<=o.index
    ·rw[ae (fu hi),ae (cA hi (by omega))]
     exact hfin _ (by unfold nC;dsimp only;rw[if_neg b16,if_neg hb0,if_pos hi])
    ·rw[ag (j9 hi)]
     exact hfin _ (by unfold nC;dsimp only;rw[if_neg b16,if_neg hb0,if_neg hi])
 ·have h1:o.kind=1:=by omega
  unfold MS.wr
  rw[if_neg h2,aq h2,ak]
  exact set_m hn (hv.r h2 h1) (fun g'=>some ((),(g',rip,fl,nx,s.code,()),s.m,s.l,()))
theorem MS.ok.rd {s:MS}{k:Nat}(hs:s.ok k)(nx:Int){o:Opd}{n:Nat}(hn:cl (n:Int)=true)(hv:OpV o n):(s.rd nx o n).2.ok (k+1)/\I64 (s.rd nx o n).1/\(s.rd nx o n).2.g=s.g/\(s.rd nx o n).2.m=s.m:=by
 unfold MS.rd
 split
 ·exact⟨hs.mono (Nat.le_succ k),uC hs.g hn,rfl,rfl⟩
 ·split
  ·exact hs.ld ..
  ·exact⟨hs.mono (Nat.le_succ k),hv.i,rfl,rfl⟩
theorem MS.ok.wr {s:MS}{k:Nat}(hs:s.ok k)(nx:Int){o:Opd}{n:Nat}{v:Int}(hI:I64 v)(hn:cl (n:Int)=true)(hv:OpV o n):(s.wr nx o n v).ok (k+1):=by
 unfold MS.wr
 split
 ·exact(hs.st (l6 hv) hn v).1
 ·exact⟨hs.m,Nat.le_trans hs.l (Nat.le_succ k),lF hs.g hI hn⟩
def MS.pu (s:MS)(v:Int):MS:=({s with g:=setA s.g 4 (aT .i64 (rg s.g 4) 8)}:MS).st (rg (setA s.g 4 (aT .i64 (rg s.g 4) 8)) 4) 8 v
def MS.po (s:MS):Int×MS:=((s.ld (rg s.g 4) 8).1,{(s.ld (rg s.g 4) 8).2 with g:=setA s.g 4 (aB .i64 (rg s.g 4) 8)})
theorem MS.ok.setA {s:MS}{k:Nat}(hs:s.ok k){i v:Int}(hv:I64 v):MS.ok {s with g:=Go.Den.G.setA s.g i v} k:=⟨hs.m,hs.l,hs.g.setA hv⟩
theorem MS.ok.pu {s:MS}{k:Nat}(hs:s.ok k)(v:Int):(s.pu v).ok (k+1):=by
 have h1:=hs.setA (i:=4) (v:=aT .i64 (rg s.g 4) 8) (au _)
 exact(h1.st (h1.g 4) rfl v).1
theorem MS.ok.po {s:MS}{k:Nat}(hs:s.ok k):s.po.2.ok (k+1)/\I64 s.po.1/\s.po.2.m=s.m:=by
 have h1:=hs.ld (rg s.g 4) 8
 unfold MS.po
 exact⟨⟨h1.1.m,h1.1.l,hs.g.setA (au _)⟩,h1.2.1,h1.2.2.2⟩
theorem push_m {s:MS}{k:Nat}(hs:s.ok k)(hk:k<=1000)(v rip fl nx:Int):cD ((v,()),s.t rip fl nx)=some ((),(s.pu v).t rip fl nx):=by
 have h1:=hs.setA (i:=4) (v:=aT .i64 (rg s.g 4) 8) (au _)
 have h2:=zj h1 hk (a:=rg (setA s.g 4 (aT .i64 (rg s.g 4) 8)) 4) (v:=v) (n:=8) (h1.g 4) rfl rip fl nx
 have h3:=(h1.st (a:=rg (setA s.g 4 (aT .i64 (rg s.g 4) 8)) 4) (n:=8) (h1.g 4) rfl v).2
 unfold cD
 unfold MS.t at h2|-
 dsimp only at h2 h3|-
 have h2':aF (((aR (cF (dW 16 (az .i) s.g) 4 (aT .i64 (aR s.g 4 (az .i)) 8)) 4 (az .i)),8,v,()),((cF (dW 16 (az .i) s.g) 4 (aT .i64 (aR s.g 4 (az .i)) 8)),rip,fl,nx,s.code,()),s.m,s.l,())=_:=h2
 rw[h2',aa]
 unfold MS.pu
 dsimp only
 rw[h3]
 rfl
theorem pop_m {s:MS}{k:Nat}(hs:s.ok k)(hk:k<=1000)(rip fl nx:Int):cO ((),s.t rip fl nx)=some (s.po.1,s.po.2.t rip fl nx):=by
 have h2:=DJ hs hk (a:=rg s.g 4) (n:=8) (hs.g 4) rfl rip fl nx
 unfold cO
 unfold MS.t at h2|-
 dsimp only at h2|-
 have h2':aN (((aR s.g 4 (az .i)),8,()),(s.g,rip,fl,nx,s.code,()),s.m,s.l,())=_:=h2
 rw[h2',aa]
 rfl
def MS.go (s:MS)(nx:Int)(x:Ins):Int×MS:=if x.src.kind=3 then(aB .i64 nx x.src.imm,s)else s.rd nx x.src 8
theorem goal_m {s:MS}{k:Nat}(hs:s.ok k)(hk:k<=1000){x:Ins}(hv:OpV x.src 8)(rip fl nx:Int):bJ ((x,()),s.t rip fl nx)=some ((s.go nx x).1,(s.go nx x).2.t rip fl nx):=by
 have hr:=Ia hs hk (n:=8) rfl hv rip fl nx
 have hg:=(hs.rd nx (n:=8) rfl hv).2.2.1
 unfold bJ MS.go
 dsimp only
 by_cases h3:x.src.kind=3
 ·rw[be h3,aE,if_pos h3]
  rfl
 ·rw[aq h3,ak,if_neg h3]
  have hr':aw ((c9 x.src (),8,()),s.t rip fl nx)=_:=hr
  rw[hr',aa]
  unfold MS.t
  dsimp only
  rw[hg]
theorem MS.ok.go {s:MS}{k:Nat}(hs:s.ok k)(nx:Int){x:Ins}(hv:OpV x.src 8):(s.go nx x).2.ok (k+1)/\I64 (s.go nx x).1:=by
 unfold MS.go
 split
 ·exact⟨hs.mono (Nat.le_succ k),au _⟩
 ·have:=hs.rd nx (n:=8) rfl hv
  exact⟨this.1,this.2.1⟩
end
set_option synthInstance.maxSize 4000
set_option synthInstance.maxHeartbeats 400000
def kOf (c:UInt8):Int:=if c=114 then 1 else if c=109 then 2 else if c=105 then 3 else 0
def kindT (n:Nat)(kd ks:Int):Bool:=
 decide ((n<=12\/17<=n/\n<=28\/n=30\/n=35\/n=36->kd=1\/kd=2)/\(n=28->ks=1)/\(n=25->kd=1/\ks=2)/\
  (n=9->kd=2->ks≠2)/\(n=26\/n=27\/n=36\/n=17->kd=1/\(ks=1\/ks=2))/\(13<=n/\n<=16->ks=1\/ks=2)/\(n=29\/n=31\/n=32->ks=1\/ks=2\/ks=3)/\(n=33->ks=3)/\
  (20<=n/\n<=24->ks=1\/ks=3)/\(n=11\/n=12\/n=18\/n=19->ks=0)/\(n<=8\/n=10\/n=17->ks=1\/ks=2\/ks=3))
theorem Gn:∀n,n<45->1<=n->∀q∈prK n,q.length=2/\q.getD 0 0∈FP/\q.getD 1 0∈FP/\kindT n (kOf (q.getD 0 0)) (kOf (q.getD 1 0))=true:=by decide +kernel
theorem HX {k:Int}{c:UInt8}(hc:c∈FP)(h:sG k c):k=kOf c:=by
 have hc:c=114\/c=109\/c=105\/c=48:=by simpa[FP]using hc
 unfold sG at h
 rcases hc with rfl|rfl|rfl|rfl<;>revert h<;>unfold kOf<;>intro h<;>simp at h|- <;>omega
theorem Gm {n:Nat}(h1:1<=n)(h2:n<45){kd ks:Int}(h:(prK n).any (xc kd ks)=true):kindT n kd ks=true:=by
 rw[List.any_eq_true]at h
 obtain⟨q,hq,hp⟩:=h
 obtain⟨l,a,b,t⟩:=Gn n h2 h1 q hq
 match q,l with
 |[c,d],_=>
  simp only[xc,Bool.and_eq_true,decide_eq_true_eq]at hp
  rw[HX (c:=c) a hp.1,HX (c:=d) b hp.2]
  exact t
def sizeT (n:Nat)(z:Int):Bool:=decide ((n<=28\/n=36\/n=40->cl z=true)/\(n=39->z=2\/z=4\/z=8)/\(29<=n/\n<=32->z=8)/\(n=35->z=1)/\(n=33->z=0))
theorem Hp:∀n,n<45->1<=n->∀z∈szL (szK n),sizeT n z=true:=by decide +kernel
structure ExV (x:Ins)(n:Nat):Prop where
 op:x.op=n
 n1:1<=n
 n2:n<45
 kt:kindT n x.dst.kind x.src.kind=true
 zt:sizeT n x.size=true
 dv:OpV x.dst x.size
 sv:OpV x.src (sSz x n)
 fr:(n=26\/n=27->cl x.frm=true)/\(¬(n=26\/n=27)->x.frm=0)
 c0:0<=x.cond
 c1:x.cond<=15
theorem HJ {o:Opd}{z:Int}(h:rS o z)(hd:I64 o.disp)(hi:I64 o.imm):OpV o z:=by
 unfold rS opB Ci at h
 refine⟨fun _ h1=>?_,fun h2=>?_,hd,hi⟩
 ·rcases h with h|h|h|h
  ·exact h.2.2.2.2.2.2
  ·omega
  ·omega
  ·omega
 ·rcases h with h|h|h|h
  ·omega
  ·omega
  ·omega
  ·omega
theorem ExV_of {x:Ins}{n:Nat}(hop:x.op=n)(h1:1<=n)(h2:n<45)(h:HU x n)(hI:I64 x.dst.disp/\I64 x.dst.imm/\I64 x.src.disp/\I64 x.src.imm):ExV x n:=by
 obtain⟨_,_,hs,hf,_,c0,c1,hd,hsr,_⟩:=h
 unfold shB at hs
 simp only[Bool.and_eq_true,decide_eq_true_eq]at hs
 obtain⟨hz,hk,hnum⟩:=hs
 refine⟨hop,h1,h2,Gm h1 h2 hk,Hp n h2 h1 _ hz,HJ hd hI.1 hI.2.1,HJ hsr hI.2.2.1 hI.2.2.2,⟨fun h=>?_,fun h=>?_⟩,c0,c1⟩
 ·unfold xL at hnum
  rcases h with rfl|rfl
  ·have hnum:decide (x.frm=1\/x.frm=2/\2<x.size)=true:=hnum
   rcases of_decide_eq_true hnum with h|h
   ·rw[h];rfl
   ·rw[h.1];rfl
  ·have hnum:decide (x.frm=1\/x.frm=2/\2<x.size\/x.frm=4/\x.size=8)=true:=hnum
   rcases of_decide_eq_true hnum with h|h|h
   ·rw[h];rfl
   ·rw[h.1];rfl
   ·rw[h.1];rfl
 ·rcases hf with h'|h'
  ·exact absurd h' h
  ·exact h'
theorem ExV.kd {x:Ins}{n:Nat}(h:ExV x n):(n<=12\/17<=n/\n<=28\/n=30\/n=35\/n=36->x.dst.kind=1\/x.dst.kind=2)/\(n=28->x.src.kind=1)/\(n=25->x.dst.kind=1/\x.src.kind=2)/\
  (n=9->x.dst.kind=2->x.src.kind≠2)/\(n=26\/n=27\/n=36\/n=17->x.dst.kind=1/\(x.src.kind=1\/x.src.kind=2))/\(13<=n/\n<=16->x.src.kind=1\/x.src.kind=2)/\(n=29\/n=31\/n=32->x.src.kind=1\/x.src.kind=2\/x.src.kind=3)/\(n=33->x.src.kind=3)/\
  (20<=n/\n<=24->x.src.kind=1\/x.src.kind=3)/\(n=11\/n=12\/n=18\/n=19->x.src.kind=0)/\(n<=8\/n=10\/n=17->x.src.kind=1\/x.src.kind=2\/x.src.kind=3):=of_decide_eq_true h.kt
theorem ExV.szs {x:Ins}{n:Nat}(h:ExV x n):(n<=28\/n=36\/n=40->cl x.size=true)/\(n=39->x.size=2\/x.size=4\/x.size=8)/\(29<=n/\n<=32->x.size=8)/\(n=35->x.size=1)/\(n=33->x.size=0):=of_decide_eq_true h.zt
theorem qA {z:Int}(h:cl z=true):∃k:Nat,z=(k:Int)/\cl (k:Int)=true:=by
 obtain⟨k,hk,_⟩:=Gj h
 exact⟨k,hk,by rw[<-hk];exact h⟩
noncomputable section
theorem BB {r:Int×MS}{g:List Int}{m:List Page}(hg:r.2.g=g)(hm:r.2.m=m):∃v c' l',r=(v,MS.mk g m c' l'):=by
 obtain⟨v,g',m',c',l'⟩:=r
 cases hg;cases hm
 exact⟨v,c',l',rfl⟩
theorem r6 {g:List Int}{m:List Page}{c:Int}{l:List Acc}{k:Nat}(hs:(MS.mk g m c l).ok k)(hk:k<=1000){o:Opd}{n:Nat}(hn:cl (n:Int)=true)(hv:OpV o n)(nx:Int):
  ∃v c' l',(MS.mk g m c l).rd nx o n=(v,⟨g,m,c',l'⟩)/\(∀rip fl,aw ((c9 o (),(n:Int),()),(g,rip,fl,nx,c,()),m,l,())=some (v,(g,rip,fl,nx,c',()),m,l',()))/\(MS.mk g m c' l').ok (k+1)/\I64 v:=by
 obtain⟨h1,h2,h3,h4⟩:=hs.rd nx hn hv
 have h5:=fun rip fl=>Ia hs hk hn hv rip fl nx
 obtain⟨v,c',l',e⟩:=BB h3 h4
 rw[e]at h1 h2
 refine⟨v,c',l',e,fun rip fl=>?_,h1,h2⟩
 have:=h5 rip fl
 rw[e]at this
 exact this
theorem sP {g:List Int}{m:List Page}{c:Int}{l:List Acc}{k:Nat}(hs:(MS.mk g m c l).ok k)(hk:k<=1000){o:Opd}{n:Nat}(hn:cl (n:Int)=true)(hv:OpV o n)(h0:o.kind=1\/o.kind=2)(nx:Int){v:Int}(hI:I64 v):
  ∃g' m' c' l',(MS.mk g m c l).wr nx o n v=⟨g',m',c',l'⟩/\(∀rip fl,ar ((c9 o (),(n:Int),v,()),(g,rip,fl,nx,c,()),m,l,())=some ((),(g',rip,fl,nx,c',()),m',l',()))/\(MS.mk g' m' c' l').ok (k+1):=
 ⟨_,_,_,_,rfl,fun rip fl=>write_m hs hk hn hv h0 rip fl nx,hs.wr nx hI hn hv⟩
theorem pu_ex {g:List Int}{m:List Page}{c:Int}{l:List Acc}{k:Nat}(hs:(MS.mk g m c l).ok k)(hk:k<=1000)(v:Int):
  ∃g' m' c' l',(MS.mk g m c l).pu v=⟨g',m',c',l'⟩/\(∀rip fl nx,cD ((v,()),(g,rip,fl,nx,c,()),m,l,())=some ((),(g',rip,fl,nx,c',()),m',l',()))/\(MS.mk g' m' c' l').ok (k+1):=
 ⟨_,_,_,_,rfl,fun rip fl nx=>push_m hs hk v rip fl nx,hs.pu v⟩
theorem po_ex {g:List Int}{m:List Page}{c:Int}{l:List Acc}{k:Nat}(hs:(MS.mk g m c l).ok k)(hk:k<=1000):
  ∃v g' m' c' l',(MS.mk g m c l).po=(v,⟨g',m',c',l'⟩)/\(∀rip fl nx,cO ((),(g,rip,fl,nx,c,()),m,l,())=some (v,(g',rip,fl,nx,c',()),m',l',()))/\(MS.mk g' m' c' l').ok (k+1)/\I64 v:=
 ⟨_,_,_,_,_,rfl,fun rip fl nx=>pop_m hs hk rip fl nx,hs.po.1,hs.po.2.1⟩
theorem go_ex {g:List Int}{m:List Page}{c:Int}{l:List Acc}{k:Nat}(hs:(MS.mk g m c l).ok k)(hk:k<=1000){x:Ins}(hv:OpV x.src 8)(nx:Int):
  ∃v c' l',(MS.mk g m c l).go nx x=(v,⟨g,m,c',l'⟩)/\(∀rip fl,bJ ((x,()),(g,rip,fl,nx,c,()),m,l,())=some (v,(g,rip,fl,nx,c',()),m,l',()))/\(MS.mk g m c' l').ok (k+1)/\I64 v:=by
 obtain⟨h1,h2⟩:=hs.go nx hv
 have h5:=fun rip fl=>goal_m hs hk hv rip fl nx
 have h3:((MS.mk g m c l).go nx x).2.g=g/\((MS.mk g m c l).go nx x).2.m=m:=by
  unfold MS.go
  split
  ·exact⟨rfl,rfl⟩
  ·exact(hs.rd nx (n:=8) rfl hv).2.2
 obtain⟨v,c',l',e⟩:=BB h3.1 h3.2
 rw[e]at h1 h2
 refine⟨v,c',l',e,fun rip fl=>?_,h1,h2⟩
 have:=h5 rip fl
 rw[e]at this
 exact this
theorem ld_ex {g:List Int}{m:List Page}{c:Int}{l:List Acc}{k:Nat}(hs:(MS.mk g m c l).ok k)(hk:k<=1000){a:Int}(ha:I64 a){n:Nat}(hn:cl (n:Int)=true):
  ∃v c' l',(MS.mk g m c l).ld a n=(v,⟨g,m,c',l'⟩)/\(∀rip fl nx,aN ((a,(n:Int),()),(g,rip,fl,nx,c,()),m,l,())=some (v,(g,rip,fl,nx,c',()),m,l',()))/\(MS.mk g m c' l').ok (k+1)/\I64 v:=by
 obtain⟨h1,h2,h3,h4⟩:=hs.ld a n
 have h5:=fun rip fl nx=>DJ hs hk ha hn rip fl nx
 obtain⟨v,c',l',e⟩:=BB h3 h4
 rw[e]at h1 h2
 refine⟨v,c',l',e,fun rip fl nx=>?_,h1,h2⟩
 have:=h5 rip fl nx
 rw[e]at this
 exact this
theorem st_ex {g:List Int}{m:List Page}{c:Int}{l:List Acc}{k:Nat}(hs:(MS.mk g m c l).ok k)(hk:k<=1000){a:Int}(ha:I64 a){n:Nat}(hn:cl (n:Int)=true)(v:Int):
  ∃m' c' l',(MS.mk g m c l).st a n v=⟨g,m',c',l'⟩/\(∀rip fl nx,aF ((a,(n:Int),v,()),(g,rip,fl,nx,c,()),m,l,())=some ((),(g,rip,fl,nx,c',()),m',l',()))/\(MS.mk g m' c' l').ok (k+1):=by
 obtain⟨h1,h2⟩:=hs.st ha hn v
 have h5:=fun rip fl nx=>zj hs hk (v:=v) ha hn rip fl nx
 obtain⟨m',c',l',e⟩:∃m' c' l',(MS.mk g m c l).st a n v=⟨g,m',c',l'⟩:=by
  generalize (MS.mk g m c l).st a n v=r at h2
  obtain⟨g',m',c',l'⟩:=r
  cases h2
  exact⟨m',c',l',rfl⟩
 rw[e]at h1
 refine⟨m',c',l',e,fun rip fl nx=>?_,h1⟩
 have:=h5 rip fl nx
 rw[e]at this
 exact this
def AC (n z:Nat):Nat:=if 20<=n/\n<=24 then 8 else z
def pd (n z:Nat)(a b fl:Int):Int×Int:=
 if n<=8\/n=10 then xS n z a b fl else if n=11\/n=12\/n=18\/n=19 then yY n z a fl
 else if 20<=n then jS n z a (bV b 1) fl else((rE n z a b fl).1,(rE n z a b fl).2.2)
def MS.rd0 (s:MS)(nx:Int)(o:Opd)(n:Nat):Int×MS:=if o.kind≠0 then s.rd nx o n else(0,s)
def MS.reck (s:MS)(nx fl:Int)(x:Ins)(n z:Nat):MS×Int:=
 let a:=s.rd nx x.dst z
 let b:=a.2.rd0 nx x.src (AC n z)
 let r:=pd n z a.1 b.1 fl
 (if n≠8/\n≠10 then b.2.wr nx x.dst z r.1 else b.2,r.2)
theorem qL {x:Ins}{n z:Nat}(hx:ExV x n)(hn:n<=24)(hz:x.size=z)(hz':cl (z:Int)=true):gX ((x,()),())=some ((AC n z:Int),())/\sSz x n=(AC n z:Int):=by
 have hf:=hx.fr.2 (by omega)
 have h0:=(dL hz').1
 unfold gX dh sSz AC
 dsimp only
 rw[hf,be rfl,bE,ak,mY,aa,aa,hx.op,hz]
 dsimp only
 by_cases h:20<=n/\n<=24
 ·have hb:inB (n:Int) 20 24=true:=by unfold inB;simp;omega
  rw[hb,aE,aa,aE,if_pos h,if_pos h]
  exact⟨rfl,rfl⟩
 ·have hb:inB (n:Int) 20 24=false:=by unfold inB;simp;omega
  rw[hb,ak,aa,ag (aq),if_neg h,if_neg h,iD]
  exact⟨rfl,rfl⟩
theorem Ge (n:Nat):jx (((n:Int),()),())=some (decide (1<=n/\n<=8\/n=10),()):=by
 unfold jx
 dsimp only
 rw[mY,aa]
 dsimp only
 have hb:inB (n:Int) 1 8=decide (1<=n/\n<=8):=by unfold inB;rw[Bool.eq_iff_iff];simp;omega
 have he:eqI (n:Int) 10=decide (n=10):=by unfold eqI;rw[Bool.eq_iff_iff];simp;omega
 rw[hb,he,AR,aa]
 congr 2
 rw[Bool.eq_iff_iff];simp
theorem Gi (n:Nat):jy (((n:Int),()),())=some (decide (n=11\/n=12\/n=18\/n=19),()):=by
 unfold jy
 dsimp only
 have he:∀j:Nat,eqI (n:Int) (j:Int)=decide (n=j):=fun j=>by unfold eqI;rw[Bool.eq_iff_iff];simp;omega
 have e1:=he 11
 have e2:=he 12
 have e3:=he 18
 have e4:=he 19
 rw[show((11:Nat):Int)=11 from rfl]at e1
 rw[show((12:Nat):Int)=12 from rfl]at e2
 rw[show((18:Nat):Int)=18 from rfl]at e3
 rw[show((19:Nat):Int)=19 from rfl]at e4
 rw[e1,e2,e3,e4,AR,aa,AR,aa,AR,aa]
 congr 2
 rw[Bool.eq_iff_iff];simp[or_assoc]
theorem yC (n:Nat):dh (((n:Int),()),())=some (decide (20<=n/\n<=24),()):=by
 unfold dh
 dsimp only
 rw[mY,aa]
 congr 2
 unfold inB;rw[Bool.eq_iff_iff];simp;omega
theorem rckV_ok {n z:Nat}{a b fl:Int}(hz:cl (z:Int)=true)(ha:I64 a)(hI:I64 fl)(hf:bS fl=true):I64 (pd n z a b fl).1/\bS (pd n z a b fl).2=true/\I64 (pd n z a b fl).2:=by
 unfold pd
 split
 ·exact Cr hz ha
 split
 ·exact D7 hz hI hf
 split
 ·exact xr hz ha hI hf
 ·have:=uV (op:=n) (n:=z) (a:=a) (b:=b) hI hf
  exact⟨this.1,this.2.2.1,this.2.2.2⟩
theorem reck_m {g:List Int}{m:List Page}{c:Int}{l:List Acc}{k:Nat}(hs:(MS.mk g m c l).ok k)(hk:k+3<=1000){x:Ins}{n z:Nat}(hx:ExV x n)(hn:n<=8\/10<=n/\n<=12\/17<=n/\n<=24)(hz:x.size=z)
  {fl:Int} (hI:I64 fl) (hf:bS fl=true) (nx:Int):
  ∃g' m' c' l' fl',(MS.mk g m c l).reck nx fl x n z=(⟨g',m',c',l'⟩,fl')/\(∀rip,cH ((x,()),(g,rip,fl,nx,c,()),m,l,())=some ((),(g',rip,fl',nx,c',()),m',l',()))/\(MS.mk g' m' c' l').ok (k+3)/\I64 fl'/\bS fl'=true:=by
 have hz':cl (z:Int)=true:=by rw[<-hz];exact hx.szs.1 (by omega)
 have hkd:=hx.kd.1 (by omega)
 have hdv:=hx.dv
 have hsv:=hx.sv
 obtain⟨hss,hss2⟩:=qL hx (by omega) hz hz'
 rw[hz]at hdv
 rw[hss2]at hsv
 have hzs:cl (AC n z:Int)=true:=by unfold AC;split;rfl;exact hz'
 obtain⟨v1,c1,l1,e1,r1,ok1,I1⟩:=r6 hs (by omega) hz' hdv nx
 have hb:∃v2 c2 l2,(MS.mk g m c1 l1).rd0 nx x.src (AC n z)=(v2,⟨g,m,c2,l2⟩)/\(MS.mk g m c2 l2).ok (k+2)/\I64 v2/\(x.src.kind=0->v2=0/\c2=c1/\l2=l1)/\
   (x.src.kind≠0->∀rip fl,aw ((c9 x.src (),(AC n z:Int),()),(g,rip,fl,nx,c1,()),m,l1,())=some (v2,(g,rip,fl,nx,c2,()),m,l2,())):=by
  unfold MS.rd0
  by_cases h0:x.src.kind=0
  ·rw[if_neg (by simpa using h0)]
   exact⟨0,c1,l1,rfl,ok1.mono (by omega),by unfold I64;omega,fun _=>⟨rfl,rfl,rfl⟩,fun h=>absurd h0 h⟩
  ·rw[if_pos h0]
   obtain⟨v2,c2,l2,e2,r2,ok2,I2⟩:=r6 ok1 (by omega) hzs hsv nx
   exact⟨v2,c2,l2,e2,ok2,I2,fun h=>absurd h h0,fun _=>r2⟩
 obtain⟨v2,c2,l2,e2,ok2,I2,h20,h21⟩:=hb
 obtain⟨rI,rf,rfI⟩:=rckV_ok (n:=n) (b:=v2) hz' I1 hI hf
 have hw:∃g' m' c' l',(if n≠8/\n≠10 then(MS.mk g m c2 l2).wr nx x.dst z (pd n z v1 v2 fl).1 else(MS.mk g m c2 l2))=⟨g',m',c',l'⟩/\(MS.mk g' m' c' l').ok (k+3)/\
   (n≠8/\n≠10->∀rip fl',ar ((c9 x.dst (),(z:Int),(pd n z v1 v2 fl).1,()),(g,rip,fl',nx,c2,()),m,l2,())=some ((),(g',rip,fl',nx,c',()),m',l',()))/\
   (¬(n≠8/\n≠10)->g'=g/\m'=m/\c'=c2/\l'=l2):=by
  by_cases h:n≠8/\n≠10
  ·rw[if_pos h]
   obtain⟨g',m',c',l',e3,r3,ok3⟩:=sP ok2 (by omega) hz' hdv hkd nx rI
   exact⟨g',m',c',l',e3,ok3,fun _=>r3,fun g=>absurd h g⟩
  ·rw[if_neg h]
   exact⟨g,m,c2,l2,rfl,ok2.mono (by omega),fun g=>absurd g h,fun _=>⟨rfl,rfl,rfl,rfl⟩⟩
 obtain⟨g',m',c',l',e3,ok3,w1,w2⟩:=hw
 refine⟨g',m',c',l',(pd n z v1 v2 fl).2,?_,fun rip=>?_,ok3,rfI,rf⟩
 ·unfold MS.reck
  dsimp only
  rw[e1]
  dsimp only
  rw[e2]
  dsimp only
  rw[e3]
 unfold cH
 dsimp only
 rw[hz,r1,aa]
 dsimp only
 refine(Ret.bnd (Q:=fun y=>y=Sum.inl ((v1,v2,()),(g,rip,fl,nx,c2,()),m,l2,(dX x ()),())) ?_ ?_).eq
 ·by_cases h0:x.src.kind=0
  ·obtain⟨rfl,rfl,rfl⟩:=h20 h0
   rw[be h0,bE,ak]
   exact Ret.some rfl
  ·rw[aq h0,bU,aE,hss,aa,h21 h0,aa]
   exact Ret.some rfl
 rintro _ rfl
 rw[ah]
 dsimp only[dX,c9]
 rw[hx.op,hz,Ge,aa]
 dsimp only
 refine Ret.bnd (Q:=fun y=>y=Sum.inl (((pd n z v1 v2 fl).1,()),(g,rip,(pd n z v1 v2 fl).2,nx,c2,()),m,l2,(dX x ()),())) ?_ ?_
 ·have ex:(((n:Int),(z:Int),x.cond,x.frm,x.dst.kind,x.dst.reg,x.dst.base,x.dst.index,x.dst.scale,x.dst.disp,x.dst.imm,x.src.kind,x.src.reg,x.src.base,x.src.index,x.src.scale,x.src.disp,x.src.imm,x.len,()):Int×Int×Int×Int×Int×Int×Int×Int×Int×Int×Int×Int×Int×Int×Int×Int×Int×Int×Int×Unit)=dX x ():=by
   rw[<-hx.op,<-hz];rfl
  unfold pd
  by_cases ha:n<=8\/n=10
  ·have h1:=hx.n1
   rw[dT,aE,if_pos ha,alu_eq hz' I1 I2,aa]
   dsimp only
   exact Ret.some (by rw[ex])
  ·rw[dF,ak,if_neg ha,Gi,aa]
   dsimp only
   refine Ret.bnd (Q:=fun y=>y=Sum.inl (((pd n z v1 v2 fl).1,()),(g,rip,(pd n z v1 v2 fl).2,nx,c2,()),m,l2,(dX x ()),())) ?_ ?_
   ·unfold pd
    rw[if_neg ha]
    by_cases h1:n=11\/n=12\/n=18\/n=19
    ·rw[decide_eq_true h1,aE,if_pos h1,one_eq hz' I1,aa]
     dsimp only
     exact Ret.some (by rw[ex])
    ·rw[decide_eq_false h1,ak,if_neg h1,yC,aa]
     dsimp only
     refine Ret.bnd (Q:=fun y=>y=Sum.inl (((pd n z v1 v2 fl).1,()),(g,rip,(pd n z v1 v2 fl).2,nx,c2,()),m,l2,(dX x ()),())) ?_ ?_
     ·unfold pd
      rw[if_neg ha,if_neg h1]
      by_cases h2:20<=n
      ·rw[dT,aE,if_pos h2,show(1:Int)=((1:Nat):Int)from rfl,bQ _ 1 rfl,aa,Hn (by omega) hz' I1 hI hf,aa]
       dsimp only
       exact Ret.some (by rw[ex])
      ·rw[dF,ak,if_neg h2,rF hz' I1 I2 hI hf,aa]
       dsimp only
       exact Ret.some (by rw[ex])
     ·rintro _ rfl
      rw[ah]
      exact Ret.some (by unfold pd;rw[if_neg ha,if_neg h1])
   ·rintro _ rfl
    rw[ah]
    exact Ret.some (by unfold pd;rw[if_neg ha])
 rintro _ rfl
 rw[ah]
 dsimp only[dX,c9,cp7]
 rw[hx.op,hz]
 have hbr:br (aQ (eqI (n:Int) 8)) (some (aQ (eqI (n:Int) 10))) (some false)=some (decide (n≠8/\n≠10)):=by
  by_cases a8:n=8
  ·rw[be,bE,ak,dF]
  ·rw[aq,bU,aE]
   by_cases a10:n=10
   ·rw[be,bE,dF]
   ·rw[aq,bU,dT]
 rw[hbr,aa]
 by_cases h:n≠8/\n≠10
 ·rw[decide_eq_true h,aE]
  have hw:=w1 h rip (pd n z v1 v2 fl).2
  unfold c9 at hw
  rw[hw,aa]
  exact Ret.some rfl
 ·obtain⟨rfl,rfl,rfl,rfl⟩:=w2 h
  rw[decide_eq_false h,ak]
  exact Ret.some rfl
end
set_option linter.unusedSectionVars false
noncomputable section
def MS.flow (s:MS)(rip fl nx:Int)(x:Ins)(n:Nat):MS×Int:=
 if n=29 then((s.rd nx x.src 8).2.pu (s.rd nx x.src 8).1,rip)
 else if n=30 then(s.po.2.wr nx x.dst 8 s.po.1,rip)
 else if n=31 then((s.go nx x).2.pu nx,(s.go nx x).1)
 else if n=34 then(s.po.2,s.po.1)
 else if n=32 then((s.go nx x).2,(s.go nx x).1)
 else if n=33 then(if jl x.cond fl=true then((s.go nx x).2,(s.go nx x).1)else(s,rip))
 else if n=41 then({s.st (rg s.g 7) 1 (rg s.g 0)with g:=setA s.g 7 (aB .i64 (rg s.g 7) 1)},rip)
 else if n=42 then({(s.ld (rg s.g 6) 1).2.st (rg s.g 7) 1 (s.ld (rg s.g 6) 1).1 with g:=setA (setA s.g 6 (aB .i64 (rg s.g 6) 1)) 7 (aB .i64 (rg (setA s.g 6 (aB .i64 (rg s.g 6) 1)) 7) 1)},rip)
 else if n=38 then({s with code:=17},rip)
 else if n=43\/n=44 then({s with code:=18},rip)
 else(s,rip)
section
variable {g:List Int}{m:List Page}{c:Int}{l:List Acc}{k:Nat}(hs:(MS.mk g m c l).ok k)(hk:k+3<=1000){x:Ins}
include hs hk
theorem flow_29 (hx:ExV x 29)(rip fl nx:Int):∃g' m' c' l' rip',(MS.mk g m c l).flow rip fl nx x 29=(⟨g',m',c',l'⟩,rip')/\ap ((x,()),(g,rip,fl,nx,c,()),m,l,())=some ((),(g',rip',fl,nx,c',()),m',l',())/\(MS.mk g' m' c' l').ok (k+3):=by
 unfold MS.flow ap
 dsimp only
 have hop:=hx.op
 have hsv:=hx.sv
 rw[show sSz x 29=x.size from by unfold sSz;rw[iD,hx.fr.2 (by decide),iD],hx.szs.2.2.1 (by decide)]at hsv
 obtain⟨v1,c1,l1,e1,r1,ok1,I1⟩:=r6 hs (by omega) (n:=8) rfl hsv nx
 obtain⟨g',m',c',l',e2,r2,ok2⟩:=pu_ex ok1 (by omega) v1
 have r1':aw ((c9 x.src (),8,()),(g,rip,fl,nx,c,()),m,l,())=_:=r1 rip fl
 rw[if_pos rfl,e1,hop,be,aE,r1',aa,r2,aa]
 exact⟨g',m',c',l',rip,by dsimp only;rw[e2],rfl,ok2.mono (by omega)⟩
theorem flow_30 (hx:ExV x 30)(rip fl nx:Int):∃g' m' c' l' rip',(MS.mk g m c l).flow rip fl nx x 30=(⟨g',m',c',l'⟩,rip')/\ap ((x,()),(g,rip,fl,nx,c,()),m,l,())=some ((),(g',rip',fl,nx,c',()),m',l',())/\(MS.mk g' m' c' l').ok (k+3):=by
 unfold MS.flow ap
 dsimp only
 have hop:=hx.op
 have hdv:=hx.dv
 rw[hx.szs.2.2.1 (by decide)]at hdv
 obtain⟨v1,g1,m1,c1,l1,e1,r1,ok1,I1⟩:=po_ex hs (by omega)
 obtain⟨g',m',c',l',e2,r2,ok2⟩:=sP ok1 (by omega) (n:=8) rfl hdv (hx.kd.1 (by decide)) nx I1
 have r2':ar ((c9 x.dst (),8,v1,()),(g1,rip,fl,nx,c1,()),m1,l1,())=_:=r2 rip fl
 rw[iD,if_pos rfl,e1,hop,aq,ak,be,aE,r1,aa]
 dsimp only
 rw[r2',aa]
 exact⟨g',m',c',l',rip,by rw[e2],rfl,ok2.mono (by omega)⟩
theorem flow_31 (hx:ExV x 31)(rip fl nx:Int):∃g' m' c' l' rip',(MS.mk g m c l).flow rip fl nx x 31=(⟨g',m',c',l'⟩,rip')/\ap ((x,()),(g,rip,fl,nx,c,()),m,l,())=some ((),(g',rip',fl,nx,c',()),m',l',())/\(MS.mk g' m' c' l').ok (k+3):=by
 unfold MS.flow ap
 dsimp only
 have hop:=hx.op
 have hsv:=hx.sv
 rw[show sSz x 31=x.size from by unfold sSz;rw[iD,hx.fr.2 (by decide),iD],hx.szs.2.2.1 (by decide)]at hsv
 obtain⟨v1,c1,l1,e1,r1,ok1,I1⟩:=go_ex hs (by omega) hsv nx
 obtain⟨g',m',c',l',e2,r2,ok2⟩:=pu_ex ok1 (by omega) nx
 rw[iD,iD,if_pos rfl,e1,hop,aq,ak,aq,ak,be,aE,r1,aa]
 dsimp only
 rw[r2,aa]
 exact⟨g',m',c',l',v1,by rw[e2],rfl,ok2.mono (by omega)⟩
theorem flow_34 (hx:ExV x 34)(rip fl nx:Int):∃g' m' c' l' rip',(MS.mk g m c l).flow rip fl nx x 34=(⟨g',m',c',l'⟩,rip')/\ap ((x,()),(g,rip,fl,nx,c,()),m,l,())=some ((),(g',rip',fl,nx,c',()),m',l',())/\(MS.mk g' m' c' l').ok (k+3):=by
 unfold MS.flow ap
 dsimp only
 have hop:=hx.op
 obtain⟨v1,g1,m1,c1,l1,e1,r1,ok1,I1⟩:=po_ex hs (by omega)
 rw[iD,iD,iD,if_pos rfl,e1,hop,aq,ak,aq,ak,aq,ak,be,aE,r1,aa]
 exact⟨g1,m1,c1,l1,v1,rfl,rfl,ok1.mono (by omega)⟩
theorem flow_32 (hx:ExV x 32)(rip fl nx:Int):∃g' m' c' l' rip',(MS.mk g m c l).flow rip fl nx x 32=(⟨g',m',c',l'⟩,rip')/\ap ((x,()),(g,rip,fl,nx,c,()),m,l,())=some ((),(g',rip',fl,nx,c',()),m',l',())/\(MS.mk g' m' c' l').ok (k+3):=by
 unfold MS.flow ap
 dsimp only
 have hop:=hx.op
 have hsv:=hx.sv
 rw[show sSz x 32=x.size from by unfold sSz;rw[iD,hx.fr.2 (by decide),iD],hx.szs.2.2.1 (by decide)]at hsv
 obtain⟨v1,c1,l1,e1,r1,ok1,I1⟩:=go_ex hs (by omega) hsv nx
 rw[iD,iD,iD,iD,if_pos rfl,e1,hop,aq,ak,aq,ak,aq,ak,aq,ak,be,aE,r1,aa]
 exact⟨g,m,c1,l1,v1,rfl,rfl,ok1.mono (by omega)⟩
theorem flow_33 (hx:ExV x 33)(rip fl nx:Int):∃g' m' c' l' rip',(MS.mk g m c l).flow rip fl nx x 33=(⟨g',m',c',l'⟩,rip')/\ap ((x,()),(g,rip,fl,nx,c,()),m,l,())=some ((),(g',rip',fl,nx,c',()),m',l',())/\(MS.mk g' m' c' l').ok (k+3):=by
 unfold MS.flow ap
 dsimp only
 have hop:=hx.op
 have hk3:=hx.kd.2.2.2.2.2.2.2.1 rfl
 have hgo:∀s:MS,s.go nx x=(aB .i64 nx x.src.imm,s):=fun s=>if_pos hk3
 have hg2:bJ ((x,()),(g,rip,fl,nx,c,()),m,l,())=some (aB .i64 nx x.src.imm,(g,rip,fl,nx,c,()),m,l,()):=by
  unfold bJ
  dsimp only
  rw[be hk3,aE]
 rw[iD,iD,iD,iD,iD,if_pos rfl,hgo,hop,aq,ak,aq,ak,aq,ak,aq,ak,aq,ak,be,aE,uE hx.c0 hx.c1,aa]
 dsimp only
 by_cases hh:jl x.cond fl=true
 ·rw[hh,aE,hg2,aa,if_pos rfl]
  exact⟨g,m,c,l,_,rfl,rfl,hs.mono (by omega)⟩
 ·rw[Bool.eq_false_iff.2 hh,ak,iD]
  exact⟨g,m,c,l,_,rfl,rfl,hs.mono (by omega)⟩
theorem flow_41 (hx:ExV x 41)(rip fl nx:Int):∃g' m' c' l' rip',(MS.mk g m c l).flow rip fl nx x 41=(⟨g',m',c',l'⟩,rip')/\ap ((x,()),(g,rip,fl,nx,c,()),m,l,())=some ((),(g',rip',fl,nx,c',()),m',l',())/\(MS.mk g' m' c' l').ok (k+3):=by
 unfold MS.flow ap
 dsimp only
 have hop:=hx.op
 obtain⟨m',c',l',e1,r1,ok1⟩:=st_ex hs (by omega) (hs.g 7) (n:=1) rfl (rg g 0)
 have r1':aF ((aR g 7 (az .i),1,aR g 0 (az .i),()),(g,rip,fl,nx,c,()),m,l,())=_:=r1 rip fl nx
 rw[iD,iD,iD,iD,iD,iD,if_pos rfl,e1,hop,aq,ak,aq,ak,aq,ak,aq,ak,aq,ak,aq,ak,be,aE,r1',aa]
 exact⟨_,m',c',l',rip,rfl,rfl,(ok1.setA (au _)).mono (by omega)⟩
theorem flow_42 (hx:ExV x 42)(rip fl nx:Int):∃g' m' c' l' rip',(MS.mk g m c l).flow rip fl nx x 42=(⟨g',m',c',l'⟩,rip')/\ap ((x,()),(g,rip,fl,nx,c,()),m,l,())=some ((),(g',rip',fl,nx,c',()),m',l',())/\(MS.mk g' m' c' l').ok (k+3):=by
 unfold MS.flow ap
 dsimp only
 have hop:=hx.op
 obtain⟨v1,c1,l1,e1,r1,ok1,I1⟩:=ld_ex hs (by omega) (hs.g 6) (n:=1) rfl
 obtain⟨m',c',l',e2,r2,ok2⟩:=st_ex ok1 (by omega) (hs.g 7) (n:=1) rfl v1
 have r1':aN ((aR g 6 (az .i),1,()),(g,rip,fl,nx,c,()),m,l,())=_:=r1 rip fl nx
 have r2':aF ((aR g 7 (az .i),1,v1,()),(g,rip,fl,nx,c1,()),m,l1,())=_:=r2 rip fl nx
 rw[iD,iD,iD,iD,iD,iD,iD,if_pos rfl,e1,hop,aq,ak,aq,ak,aq,ak,aq,ak,aq,ak,aq,ak,aq,ak,be,aE,r1',aa]
 dsimp only
 rw[r2',aa,e2]
 exact⟨_,m',c',l',rip,rfl,rfl,((ok2.setA (au _)).setA (au _)).mono (by omega)⟩
theorem flow_38 (hx:ExV x 38)(rip fl nx:Int):∃g' m' c' l' rip',(MS.mk g m c l).flow rip fl nx x 38=(⟨g',m',c',l'⟩,rip')/\ap ((x,()),(g,rip,fl,nx,c,()),m,l,())=some ((),(g',rip',fl,nx,c',()),m',l',())/\(MS.mk g' m' c' l').ok (k+3):=by
 unfold MS.flow ap
 dsimp only
 have hop:=hx.op
 rw[iD,iD,iD,iD,iD,iD,iD,iD,if_pos rfl,hop,aq,ak,aq,ak,aq,ak,aq,ak,aq,ak,aq,ak,aq,ak,aq,ak,be,aE]
 exact⟨g,m,17,l,rip,rfl,rfl,⟨hs.m,Nat.le_trans hs.l (by omega),hs.g⟩⟩
theorem flow_43 (hx:ExV x 43)(rip fl nx:Int):∃g' m' c' l' rip',(MS.mk g m c l).flow rip fl nx x 43=(⟨g',m',c',l'⟩,rip')/\ap ((x,()),(g,rip,fl,nx,c,()),m,l,())=some ((),(g',rip',fl,nx,c',()),m',l',())/\(MS.mk g' m' c' l').ok (k+3):=by
 unfold MS.flow ap
 dsimp only
 have hop:=hx.op
 rw[iD,iD,iD,iD,iD,iD,iD,iD,iD,if_pos (by decide),hop,aq,ak,aq,ak,aq,ak,aq,ak,aq,ak,aq,ak,aq,ak,aq,ak,aq,ak]
 rw[show eqI ((43:Nat):Int) 43=true from rfl,aE,aa,ah]
 exact⟨g,m,18,l,rip,rfl,rfl,⟨hs.m,Nat.le_trans hs.l (by omega),hs.g⟩⟩
theorem flow_44 (hx:ExV x 44)(rip fl nx:Int):∃g' m' c' l' rip',(MS.mk g m c l).flow rip fl nx x 44=(⟨g',m',c',l'⟩,rip')/\ap ((x,()),(g,rip,fl,nx,c,()),m,l,())=some ((),(g',rip',fl,nx,c',()),m',l',())/\(MS.mk g' m' c' l').ok (k+3):=by
 unfold MS.flow ap
 dsimp only
 have hop:=hx.op
 rw[iD,iD,iD,iD,iD,iD,iD,iD,iD,if_pos (by decide),hop,aq,ak,aq,ak,aq,ak,aq,ak,aq,ak,aq,ak,aq,ak,aq,ak,aq,ak]
 rw[show eqI ((44:Nat):Int) 43=false from rfl,ak,aa,ah,show eqI ((44:Nat):Int) 44=true from rfl]
 exact⟨g,m,18,l,rip,rfl,rfl,⟨hs.m,Nat.le_trans hs.l (by omega),hs.g⟩⟩
theorem flow_37 (hx:ExV x 37)(rip fl nx:Int):∃g' m' c' l' rip',(MS.mk g m c l).flow rip fl nx x 37=(⟨g',m',c',l'⟩,rip')/\ap ((x,()),(g,rip,fl,nx,c,()),m,l,())=some ((),(g',rip',fl,nx,c',()),m',l',())/\(MS.mk g' m' c' l').ok (k+3):=by
 unfold MS.flow ap
 dsimp only
 have hop:=hx.op
 rw[iD,iD,iD,iD,iD,iD,iD,iD,iD,iD,hop,aq,ak,aq,ak,aq,ak,aq,ak,aq,ak,aq,ak,aq,ak,aq,ak,aq,ak]
 rw[show eqI ((37:Nat):Int) 43=false from rfl,ak,aa,ah,show eqI ((37:Nat):Int) 44=false from rfl]
 exact⟨g,m,c,l,rip,rfl,rfl,hs.mono (by omega)⟩
end
end
set_option linter.unusedSectionVars false
set_option linter.unusedVariables false
noncomputable section
theorem Ev {g:List Int}{r v:Int}{n:Nat}(hn:cl (n:Int)=true)(h15:r<=15){α:Type}(Z:List Int->Option α):
  (br (leI 4 (n:Int)) (bnd (af ((v,(n:Int),()),())) (fun x32=>Z (cF (dW 16 (az .i) g) r x32.1))) (bnd (af ((v,(n:Int),()),())) (fun x33=>bnd (af (((aR g r (az .i)),(n:Int),()),())) (fun x34=>Z (cF (dW 16 (az .i) g) r (aB .i64 (aR g r (az .i)) (aT .i64 x33.1 x34.1)))))))=Z (qd g r n v):=by
 unfold qd Go.Den.G.setA
 rw[iN,bQ _ n hn,bQ _ n hn,aa,aa,aa]
 by_cases h4:4<=n
 ·rw[ae (fu),if_pos h4]
 ·rw[ag (j9),if_neg h4]
theorem rq:aC ((0,()),())=some (false,()):=jM 0
theorem isHigh2:aC ((2,()),())=some (false,()):=jM 2
theorem tP {g:List Int}{r:Int}{n:Nat}(h:¬16<=r):bV (aR g r (az .i)) n=lj g r n:=by
 unfold lj
 rw[if_neg h]
def MS.move (s:MS)(fl nx:Int)(x:Ins)(n z:Nat):MS:=
 if n=9 then(s.rd nx x.src z).2.wr nx x.dst z (s.rd nx x.src z).1
 else if n=28 then
  let a:=s.rd nx x.dst z
  let b:=a.2.rd nx x.src z
  (b.2.wr nx x.dst z b.1).wr nx x.src z a.1
 else if n=25 then s.wr nx x.dst z (nC s.g nx x.src)
 else if n=26 then(s.rd nx x.src x.frm.toNat).2.wr nx x.dst z (s.rd nx x.src x.frm.toNat).1
 else if n=27 then(s.rd nx x.src x.frm.toNat).2.wr nx x.dst z (sx (8*x.frm.toNat-1) (s.rd nx x.src x.frm.toNat).1)
 else if n=35 then s.wr nx x.dst 1 (if jl x.cond fl=true then 1 else 0)
 else if n=36 then
  let a:=s.rd nx x.src z
  let b:=if jl x.cond fl=true then a else a.2.rd nx x.dst z
  b.2.wr nx x.dst z b.1
 else if n=39 then {s with g:=qd s.g 0 z (sx (8*(z/2)-1) (lj s.g 0 (z/2)))}
 else if n=40 then {s with g:=qd s.g 2 z (cu .i64 (sx (8*z-1) (lj s.g 0 z)) 63)}
 else s
section
variable {g:List Int}{m:List Page}{c:Int}{l:List Acc}{k:Nat}(hs:(MS.mk g m c l).ok k)(hk:k+4<=1000){x:Ins}{z:Nat}
include hs hk
theorem move_9 (hx:ExV x 9)(hz:x.size=z)(rip fl nx:Int):∃g' m' c' l',(MS.mk g m c l).move fl nx x 9 z=⟨g',m',c',l'⟩/\aA ((x,()),(g,rip,fl,nx,c,()),m,l,())=some ((),(g',rip,fl,nx,c',()),m',l',())/\(MS.mk g' m' c' l').ok (k+4):=by
 unfold MS.move aA
 dsimp only
 have hop:=hx.op
 have hz':cl (z:Int)=true:=by rw[<-hz];exact hx.szs.1 (by decide)
 have hdv:=hx.dv
 rw[hz]at hdv
 have hsv:=hx.sv
 rw[show sSz x 9=x.size from by unfold sSz;rw[iD,hx.fr.2 (by decide),iD],hz]at hsv
 obtain⟨v1,c1,l1,e1,r1,ok1,I1⟩:=r6 hs (by omega) hz' hsv nx
 obtain⟨g',m',c',l',e2,r2,ok2⟩:=sP ok1 (by omega) hz' hdv (hx.kd.1 (by decide)) nx I1
 rw[if_pos rfl,e1,hop,hz,be,aE,r1,aa]
 dsimp only
 rw[r2,aa]
 exact⟨g',m',c',l',e2,rfl,ok2.mono (by omega)⟩
theorem move_28 (hx:ExV x 28)(hz:x.size=z)(rip fl nx:Int):∃g' m' c' l',(MS.mk g m c l).move fl nx x 28 z=⟨g',m',c',l'⟩/\aA ((x,()),(g,rip,fl,nx,c,()),m,l,())=some ((),(g',rip,fl,nx,c',()),m',l',())/\(MS.mk g' m' c' l').ok (k+4):=by
 unfold MS.move aA
 dsimp only
 have hop:=hx.op
 have hz':cl (z:Int)=true:=by rw[<-hz];exact hx.szs.1 (by decide)
 have hdv:=hx.dv
 rw[hz]at hdv
 have hsv:=hx.sv
 rw[show sSz x 28=x.size from by unfold sSz;rw[iD,hx.fr.2 (by decide),iD],hz]at hsv
 have hsk:x.src.kind=1\/x.src.kind=2:= .inl (hx.kd.2.1 rfl)
 obtain⟨v1,c1,l1,e1,r1,ok1,I1⟩:=r6 hs (by omega) hz' hdv nx
 obtain⟨v2,c2,l2,e2,r2,ok2,I2⟩:=r6 ok1 (by omega) hz' hsv nx
 obtain⟨g3,m3,c3,l3,e3,r3,ok3⟩:=sP ok2 (by omega) hz' hdv (hx.kd.1 (by decide)) nx I2
 obtain⟨g',m',c',l',e4,r4,ok4⟩:=sP ok3 (by omega) hz' hsv hsk nx I1
 rw[iD,if_pos rfl,e1,hop,hz,aq,ak,be,aE,r1,aa]
 dsimp only
 rw[e2,r2,aa]
 dsimp only
 rw[e3,r3,aa]
 dsimp only
 rw[e4,r4,aa]
 exact⟨g',m',c',l',rfl,rfl,ok4⟩
theorem move_25 (hx:ExV x 25)(hz:x.size=z)(rip fl nx:Int):∃g' m' c' l',(MS.mk g m c l).move fl nx x 25 z=⟨g',m',c',l'⟩/\aA ((x,()),(g,rip,fl,nx,c,()),m,l,())=some ((),(g',rip,fl,nx,c',()),m',l',())/\(MS.mk g' m' c' l').ok (k+4):=by
 unfold MS.move aA
 dsimp only
 have hop:=hx.op
 have hz':cl (z:Int)=true:=by rw[<-hz];exact hx.szs.1 (by decide)
 have hdv:=hx.dv
 rw[hz]at hdv
 have hsv:=hx.sv
 have hb:=hsv.b (hx.kd.2.2.1 rfl).2
 obtain⟨g',m',c',l',e2,r2,ok2⟩:=sP hs (by omega) hz' hdv (hx.kd.1 (by decide)) nx (l6 (g:=g) (nx:=nx) hsv)
 have hfin:∀a:Int,a=nC g nx x.src->(bnd (ar ((c9 x.dst (),(z:Int),a,()),(g,rip,fl,nx,c,()),m,l,())) (fun x8=>some ((),(x8.2.1.1,rip,fl,nx,x8.2.1.2.2.2.2),x8.2.2)))=some ((),(g',rip,fl,nx,c',()),m',l',()):=by
  rintro _ rfl
  rw[r2,aa]
 rw[iD,iD,if_pos rfl,hop,hz,aq,ak,aq,ak,be,aE]
 refine⟨g',m',c',l',e2,?_,ok2.mono (by omega)⟩
 by_cases b16:x.src.base=16
 ·rw[be b16,aE]
  by_cases hi:0<=x.src.index
  ·rw[ae (fu hi),ae (cA hi (by omega))]
   exact hfin _ (by unfold nC;dsimp only;rw[if_pos b16,if_pos hi])
  ·rw[ag (j9 hi)]
   exact hfin _ (by unfold nC;dsimp only;rw[if_pos b16,if_neg hi])
 ·rw[aq b16,ak]
  by_cases hb0:0<=x.src.base
  ·rw[ae (fu hb0),ae (cA hb0 (by omega))]
   by_cases hi:0<=x.src.index
   ·rw[ae (fu hi),ae (cA hi (by omega))]
    exact hfin _ (by unfold nC;dsimp only;rw[if_neg b16,if_pos hb0,if_pos hi])
   ·rw[ag (j9 hi)]
    exact hfin _ (by unfold nC;dsimp only;rw[if_neg b16,if_pos hb0,if_neg hi])
  ·rw[ag (j9 hb0)]
   by_cases hi:0<=x.src.index
   ·rw[ae (fu hi),ae (cA hi (by omega))]
    exact hfin _ (by unfold nC;dsimp only;rw[if_neg b16,if_neg hb0,if_pos hi])
   ·rw[ag (j9 hi)]
    exact hfin _ (by unfold nC;dsimp only;rw[if_neg b16,if_neg hb0,if_neg hi])
theorem move_26 (hx:ExV x 26)(hz:x.size=z)(rip fl nx:Int):∃g' m' c' l',(MS.mk g m c l).move fl nx x 26 z=⟨g',m',c',l'⟩/\aA ((x,()),(g,rip,fl,nx,c,()),m,l,())=some ((),(g',rip,fl,nx,c',()),m',l',())/\(MS.mk g' m' c' l').ok (k+4):=by
 unfold MS.move aA
 dsimp only
 have hop:=hx.op
 have hz':cl (z:Int)=true:=by rw[<-hz];exact hx.szs.1 (by decide)
 have hdv:=hx.dv
 rw[hz]at hdv
 obtain⟨f,hf,hf'⟩:=qA (hx.fr.1 (by decide))
 have hsv:=hx.sv
 rw[show sSz x 26=x.frm from by unfold sSz;rw[iD,if_pos (by rw[hf];have:=(dL hf').1;omega)],hf]at hsv
 have hfn:x.frm.toNat=f:=by rw[hf,Int.toNat_natCast]
 obtain⟨v1,c1,l1,e1,r1,ok1,I1⟩:=r6 hs (by omega) hf' hsv nx
 obtain⟨g',m',c',l',e2,r2,ok2⟩:=sP ok1 (by omega) hz' hdv (hx.kd.1 (by decide)) nx I1
 rw[iD,iD,iD,if_pos rfl,hfn,e1,hop,hz,hf,aq,ak,aq,ak,aq,ak,be,aE,r1,aa]
 dsimp only
 rw[r2,aa]
 exact⟨g',m',c',l',e2,rfl,ok2.mono (by omega)⟩
theorem move_27 (hx:ExV x 27)(hz:x.size=z)(rip fl nx:Int):∃g' m' c' l',(MS.mk g m c l).move fl nx x 27 z=⟨g',m',c',l'⟩/\aA ((x,()),(g,rip,fl,nx,c,()),m,l,())=some ((),(g',rip,fl,nx,c',()),m',l',())/\(MS.mk g' m' c' l').ok (k+4):=by
 unfold MS.move aA
 dsimp only
 have hop:=hx.op
 have hz':cl (z:Int)=true:=by rw[<-hz];exact hx.szs.1 (by decide)
 have hdv:=hx.dv
 rw[hz]at hdv
 obtain⟨f,hf,hf'⟩:=qA (hx.fr.1 (by decide))
 have hsv:=hx.sv
 rw[show sSz x 27=x.frm from by unfold sSz;rw[iD,if_pos (by rw[hf];have:=(dL hf').1;omega)],hf]at hsv
 have hfn:x.frm.toNat=f:=by rw[hf,Int.toNat_natCast]
 obtain⟨h1,h8⟩:=dL hf'
 obtain⟨v1,c1,l1,e1,r1,ok1,I1⟩:=r6 hs (by omega) hf' hsv nx
 obtain⟨g',m',c',l',e2,r2,ok2⟩:=sP ok1 (by omega) hz' hdv (hx.kd.1 (by decide)) nx (iF (8*f-1) (by omega) v1)
 rw[iD,iD,iD,iD,if_pos rfl,hfn,e1,hop,hz,hf,aq,ak,aq,ak,aq,ak,aq,ak,be,aE,r1,aa]
 dsimp only
 rw[kW _ _ (by omega) (by omega),aa,show(8*(f:Int)-1).toNat=8*f-1 by omega,r2,aa]
 exact⟨g',m',c',l',e2,rfl,ok2.mono (by omega)⟩
theorem move_35 (hx:ExV x 35)(hz:x.size=z)(rip fl nx:Int):∃g' m' c' l',(MS.mk g m c l).move fl nx x 35 z=⟨g',m',c',l'⟩/\aA ((x,()),(g,rip,fl,nx,c,()),m,l,())=some ((),(g',rip,fl,nx,c',()),m',l',())/\(MS.mk g' m' c' l').ok (k+4):=by
 unfold MS.move aA
 dsimp only
 have hop:=hx.op
 have hdv:=hx.dv
 rw[hx.szs.2.2.2.1 rfl]at hdv
 obtain⟨g',m',c',l',e2,r2,ok2⟩:=sP hs (by omega) (n:=1) rfl hdv (hx.kd.1 (by decide)) nx (v:=if jl x.cond fl=true then 1 else 0) (by split<;>(unfold I64;omega))
 have r2':ar ((c9 x.dst (),1,if jl x.cond fl=true then 1 else 0,()),(g,rip,fl,nx,c,()),m,l,())=_:=r2 rip fl
 rw[iD,iD,iD,iD,iD,if_pos rfl,hop,aq,ak,aq,ak,aq,ak,aq,ak,aq,ak,be,aE,uE hx.c0 hx.c1,aa]
 dsimp only
 rw[iG,aa,r2',aa]
 exact⟨g',m',c',l',e2,rfl,ok2.mono (by omega)⟩
theorem move_36 (hx:ExV x 36)(hz:x.size=z)(rip fl nx:Int):∃g' m' c' l',(MS.mk g m c l).move fl nx x 36 z=⟨g',m',c',l'⟩/\aA ((x,()),(g,rip,fl,nx,c,()),m,l,())=some ((),(g',rip,fl,nx,c',()),m',l',())/\(MS.mk g' m' c' l').ok (k+4):=by
 unfold MS.move aA
 dsimp only
 have hop:=hx.op
 have hz':cl (z:Int)=true:=by rw[<-hz];exact hx.szs.1 (by decide)
 have hdv:=hx.dv
 rw[hz]at hdv
 have hsv:=hx.sv
 rw[show sSz x 36=x.size from by unfold sSz;rw[iD,hx.fr.2 (by decide),iD],hz]at hsv
 obtain⟨v1,c1,l1,e1,r1,ok1,I1⟩:=r6 hs (by omega) hz' hsv nx
 have hb:∃v2 c2 l2,(if jl x.cond fl=true then(v1,MS.mk g m c1 l1)else(MS.mk g m c1 l1).rd nx x.dst z)=(v2,MS.mk g m c2 l2)/\(MS.mk g m c2 l2).ok (k+2)/\I64 v2/\
   (jl x.cond fl=true->v2=v1/\c2=c1/\l2=l1)/\(jl x.cond fl=false->∀rip fl,aw ((c9 x.dst (),(z:Int),()),(g,rip,fl,nx,c1,()),m,l1,())=some (v2,(g,rip,fl,nx,c2,()),m,l2,())):=by
  by_cases hh:jl x.cond fl=true
  ·rw[if_pos hh]
   exact⟨v1,c1,l1,rfl,ok1.mono (by omega),I1,fun _=>⟨rfl,rfl,rfl⟩,fun h=>by rw[hh]at h;cases h⟩
  ·rw[if_neg hh]
   obtain⟨v2,c2,l2,e2,r2,ok2,I2⟩:=r6 ok1 (by omega) hz' hdv nx
   exact⟨v2,c2,l2,e2,ok2,I2,fun h=>absurd h hh,fun _=>r2⟩
 obtain⟨v2,c2,l2,e2,ok2,I2,t1,t2⟩:=hb
 obtain⟨g',m',c',l',e3,r3,ok3⟩:=sP ok2 (by omega) hz' hdv (hx.kd.1 (by decide)) nx I2
 rw[iD,iD,iD,iD,iD,iD,if_pos rfl,e1,hop,hz,aq,ak,aq,ak,aq,ak,aq,ak,aq,ak,aq,ak,be,aE,r1,aa,uE hx.c0 hx.c1,aa]
 dsimp only
 rw[e2]
 dsimp only
 refine⟨g',m',c',l',e3,?_,ok3.mono (by omega)⟩
 refine(Ret.bnd (Q:=fun y=>y=Sum.inl ((v2,()),(g,rip,fl,nx,c2,()),m,l2,(dX x ()),())) ?_ ?_).eq
 ·by_cases hh:jl x.cond fl=true
  ·obtain⟨rfl,rfl,rfl⟩:=t1 hh
   rw[hh,show aQ true=false from rfl,ak]
   exact Ret.some rfl
  ·rw[Bool.eq_false_iff.2 hh,show aQ false=true from rfl,aE,t2 (Bool.eq_false_iff.2 hh),aa]
   exact Ret.some rfl
 rintro _ rfl
 rw[ah]
 dsimp only[dX,c9,cp7]
 have hw:=r3 rip fl
 unfold c9 at hw
 rw[hz,hw,aa]
 exact Ret.some rfl
theorem move_39 (hx:ExV x 39)(hz:x.size=z)(rip fl nx:Int):∃g' m' c' l',(MS.mk g m c l).move fl nx x 39 z=⟨g',m',c',l'⟩/\aA ((x,()),(g,rip,fl,nx,c,()),m,l,())=some ((),(g',rip,fl,nx,c',()),m',l',())/\(MS.mk g' m' c' l').ok (k+4):=by
 unfold MS.move aA
 dsimp only
 have hop:=hx.op
 have h3:z=2\/z=4\/z=8:=by have:=hx.szs.2.1 rfl;omega
 have hz':cl (z:Int)=true:=by rcases h3 with rfl|rfl|rfl<;>rfl
 have hz2:cl ((z/2:Nat):Int)=true:=by rcases h3 with rfl|rfl|rfl<;>rfl
 have hq:kE .i64 (z:Int) 2=((z/2:Nat):Int):=by rw[fS (by omega) (by decide) (by omega)];omega
 obtain⟨h1,h8⟩:=dL hz2
 have hI:=iF (8*(z/2)-1) (by omega) (lj g 0 (z/2))
 rw[iD,iD,iD,iD,iD,iD,iD,if_pos rfl,hop,hz,aq,ak,aq,ak,aq,ak,aq,ak,aq,ak,aq,ak,aq,ak,be,aE,rq,aa]
 dsimp only
 rw[ak,hq,bQ _ (z/2) hz2,aa]
 dsimp only
 rw[kW _ _ (by omega) (by omega),aa,aa,show(8*((z/2:Nat):Int)-1).toNat=8*(z/2)-1 by omega,tP (by decide)]
 dsimp only
 rw[ak]
 refine⟨_,m,c,l,rfl,?_,⟨hs.m,Nat.le_trans hs.l (by omega),lF (g:=g) (r:=0) hs.g hI hz'⟩⟩
 exact Ev hz' (by decide) (fun g'=>some ((),(g',rip,fl,nx,c,()),m,l,()))
theorem move_40 (hx:ExV x 40)(hz:x.size=z)(rip fl nx:Int):∃g' m' c' l',(MS.mk g m c l).move fl nx x 40 z=⟨g',m',c',l'⟩/\aA ((x,()),(g,rip,fl,nx,c,()),m,l,())=some ((),(g',rip,fl,nx,c',()),m',l',())/\(MS.mk g' m' c' l').ok (k+4):=by
 unfold MS.move aA
 dsimp only
 have hop:=hx.op
 have hz':cl (z:Int)=true:=by rw[<-hz];exact hx.szs.1 (by decide)
 have hdv:=hx.dv
 rw[hz]at hdv
 obtain⟨h1,h8⟩:=dL hz'
 have hI:=iF (8*z-1) (by omega) (lj g 0 z)
 have hI2:I64 (cu .i64 (sx (8*z-1) (lj g 0 z)) 63):=by rw[Ez hI];split<;>(unfold I64;omega)
 rw[iD,iD,iD,iD,iD,iD,iD,iD,if_pos rfl,hop,hz,aq,ak,aq,ak,aq,ak,aq,ak,aq,ak,aq,ak,aq,ak,aq,ak,be,aE,rq,aa]
 dsimp only
 rw[ak,bQ _ z hz',aa]
 dsimp only
 rw[kW _ _ (by omega) (by omega),aa,isHigh2,aa,show(8*(z:Int)-1).toNat=8*z-1 by omega,tP (by decide)]
 dsimp only
 rw[ak]
 refine⟨_,m,c,l,rfl,?_,⟨hs.m,Nat.le_trans hs.l (by omega),lF (g:=g) (r:=2) hs.g hI2 hz'⟩⟩
 exact Ev hz' (by decide) (fun g'=>some ((),(g',rip,fl,nx,c,()),m,l,()))
end
end
noncomputable section
theorem zero1 (v:Int):af ((v,1,()),())=some (bV v 1,()):=bQ v 1 rfl
theorem set_c0 {g:List Int}{v:Int}{n:Nat}(hn:cl (n:Int)=true){α:Type}(Z:List Int->Option α):
  (br (leI 4 (n:Int)) (bnd (af ((v,(n:Int),()),())) (fun x32=>Z (cF (dW 16 (az .i) g) 0 x32.1))) (bnd (af ((v,(n:Int),()),())) (fun x33=>bnd (some (lj g 0 n,())) (fun x34=>Z (cF (dW 16 (az .i) g) 0 (aB .i64 (aR g 0 (az .i)) (aT .i64 x33.1 x34.1)))))))=Z (qd g 0 n v):=by
 have:=Ev (g:=g) (r:=0) (v:=v) hn (by decide) Z
 rw[bQ (aR g 0 (az .i)) n hn,tP (by decide)]at this
 exact this
def setF {α:Type}(g:List Int)(r:Int)(n:Nat)(v:Int)(Z:List Int->Option α):Option α:=
 (bnd (aC ((r,()),())) (fun x8=>br x8.1 (br (inR (aT .i64 r 16) 16) (bnd (af ((v,1,()),())) (fun x9=>Z (cF (dW 16 (az .i) g) (aT .i64 r 16) (ior .i64 (gP .i64 (aR g (aT .i64 r 16) (az .i)) 65280) (dD .i64 x9.1 8))))) none) (br (leI 4 (n:Int)) (bnd (af ((v,(n:Int),()),())) (fun x10=>br (inR r 16) (Z (cF (dW 16 (az .i) g) r x10.1)) none)) (br (inR r 16) (br (inR r 16) (bnd (af ((v,(n:Int),()),())) (fun x11=>bnd (af (((aR g r (az .i)),(n:Int),()),())) (fun x12=>br (inR r 16) (Z (cF (dW 16 (az .i) g) r (aB .i64 (aR g r (az .i)) (aT .i64 x11.1 x12.1)))) none))) none) none))))
theorem zc {g:List Int}{r v:Int}{n:Nat}(hn:cl (n:Int)=true)(hr:r8 r n){α:Type}(Z:List Int->Option α):setF g r n v Z=Z (qd g r n v):=set_m hn hr Z
def upZ (z:Nat):Int:=if z=1 then 16 else 2
def MS.wide (s:MS)(fl nx:Int)(x:Ins)(n z:Nat):MS×Int:=
 let b:=s.rd nx x.src z
 if n=13\/n=14 then
  let r:=rE n z (lj s.g 0 z) b.1 fl
  ({b.2 with g:=qd (qd s.g 0 z r.1) (upZ z) z r.2.1},r.2.2)
 else
  let r:=uk n z (lj s.g (upZ z) z) (lj s.g 0 z) b.1
  ({b.2 with g:=qd (qd s.g 0 z r.1) (upZ z) z r.2.1,code:=if r.2.2=false/\b.2.code=0 then 16 else b.2.code},fl)
theorem HE (z:Nat):jA (((z:Int),()),())=some (upZ z,()):=by
 unfold jA upZ
 dsimp only
 by_cases h:z=1
 ·rw[be,aE,if_pos h]
 ·rw[aq,ak,if_neg h]
theorem pM (z:Nat):r8 (upZ z) z:=by
 unfold upZ r8
 split<;>omega
theorem wide_m {g:List Int}{m:List Page}{c:Int}{l:List Acc}{k:Nat}(hs:(MS.mk g m c l).ok k)(hk:k+4<=1000){x:Ins}{n z:Nat}(hx:ExV x n)(hn:13<=n/\n<=16)(hz:x.size=z)
  {fl:Int} (hI:I64 fl) (hf:bS fl=true) (rip nx:Int):
  ∃g' m' c' l' fl',(MS.mk g m c l).wide fl nx x n z=(⟨g',m',c',l'⟩,fl')/\db ((x,()),(g,rip,fl,nx,c,()),m,l,())=some ((),(g',rip,fl',nx,c',()),m',l',())/\(MS.mk g' m' c' l').ok (k+4)/\I64 fl'/\bS fl'=true:=by
 have hz':cl (z:Int)=true:=by rw[<-hz];exact hx.szs.1 (by omega)
 have hsv:=hx.sv
 rw[show sSz x n=x.size from by unfold sSz;rw[iN,hx.fr.2 (by omega),iD],hz]at hsv
 obtain⟨v1,c1,l1,e1,r1,ok1,I1⟩:=r6 hs (by omega) hz' hsv nx
 have hgI:∀r,I64 (lj g r z):=fun r=>uC (g:=g) hs.g hz'
 unfold MS.wide db
 dsimp only
 have hop:=hx.op
 rw[e1,hop,hz,r1,aa,HE,aa]
 dsimp only
 have hb:br (eqI (n:Int) 13) (some true) (some (eqI (n:Int) 14))=some (decide (n=13\/n=14)):=by
  by_cases a:n=13
  ·rw[be,aE,dT]
  ·rw[aq,ak]
   by_cases b:n=14
   ·rw[be,dT]
   ·rw[aq,dF]
 rw[hb,aa]
 by_cases hm:n=13\/n=14
 ·rw[decide_eq_true hm,aE,rq,aa,if_pos hm]
  dsimp only
  rw[ak,bQ _ z hz',aa,tP (by decide)]
  dsimp only
  rw[rF hz' (hgI 0) I1 hI hf,aa,aa]
  dsimp only
  rw[ak]
  obtain⟨o1,o2,o3,o4⟩:=uV (op:=n) (n:=z) (a:=lj g 0 z) (b:=v1) hI hf
  obtain⟨p,hp⟩:∃p,p=rE n z (lj g 0 z) v1 fl:=⟨_,rfl⟩
  rw[<-hp]at o1 o2 o3 o4|-
  obtain⟨lo,hi,f'⟩:=p
  clear hp
  dsimp only at o1 o2 o3 o4|-
  refine⟨_,m,c1,l1,f',rfl,?_,⟨ok1.m,Nat.le_trans ok1.l (by omega),lF (g:=qd g 0 z lo) (lF (g:=g) hs.g o1 hz') o2 hz'⟩,o4,o3⟩
  exact(set_c0 (g:=g) (v:=lo) hz' (fun g'=>setF g' (upZ z) z hi (fun g''=>some ((),(g'',rip,f',nx,c1,()),m,l1,())))).trans (zc hz' (pM z) _)
 ·rw[decide_eq_false hm,ak,if_neg hm]
  obtain⟨o1,o2⟩:=zK (op:=n) (n:=z) (hi:=lj g (upZ z) z) (lo:=lj g 0 z) (d:=v1)
  have hd:=CM (op:=n) (n:=z) (hi:=lj g (upZ z) z) (lo:=lj g 0 z) (d:=v1) hz' (hgI _) (hgI _) I1
  obtain⟨p,hp⟩:∃p,p=uk n z (lj g (upZ z) z) (lj g 0 z) v1:=⟨_,rfl⟩
  rw[<-hp]at o1 o2 hd|-
  obtain⟨q,r,ok⟩:=p
  clear hp
  dsimp only at o1 o2 hd|-
  obtain⟨c2,hc2⟩:∃c2,c2=if ok=false/\c1=0 then 16 else c1:=⟨_,rfl⟩
  rw[<-hc2]
  refine⟨_,m,c2,l1,fl,rfl,?_,⟨ok1.m,Nat.le_trans ok1.l (by omega),lF (g:=qd g 0 z q) (lF (g:=g) hs.g o1 hz') o2 hz'⟩,hI,hf⟩
  have hbr:br (aQ ok) (some (eqI c1 0)) (some false)=some (decide (ok=false/\c1=0)):=by
   cases ok with
   |true=>rfl
   |false=>rw[show aQ false=true from rfl,aE];unfold eqI;simp only[true_and]
  rw[jM,aa]
  dsimp only
  have hget:lj g (upZ z) z=if z=1 then bV (cu .i64 (aR g 0 (az .i)) 8) 1 else bV (aR g 2 (az .i)) z:=by
   unfold lj upZ
   by_cases h:z=1
   ·rw[if_pos h,if_pos h,if_pos (by decide)];rfl
   ·rw[if_neg h,if_neg h,iD]
  by_cases h1:z=1
  ·rw[if_pos h1]at hget
   have hu:upZ z=16:=if_pos h1
   have hhi:decide (16<=upZ z/\upZ z<=19)=true:=by rw[hu];decide
   rw[hhi,aE,ae (show inR (aT .i64 (upZ z) 16) 16=true by rw[hu];rfl),show aT .i64 (upZ z) 16=0 by rw[hu];rfl,zero1 (cu .i64 (aR g 0 (az .i)) 8),aa,<-hget]
   dsimp only
   rw[rq,aa]
   dsimp only
   rw[ak,bQ _ z hz',aa,tP (r:=0) (by decide)]
   dsimp only
   rw[hd,aa]
   dsimp only
   rw[hbr,aa]
   refine(Ret.bnd (Q:=fun y=>y=Sum.inl ((upZ z,q,r,()),(g,rip,fl,nx,c2,()),m,l1,(dX x ()),())) ?_ ?_).eq
   ·by_cases hcc:ok=false/\c1=0
    ·rw[decide_eq_true hcc,aE,hc2,if_pos hcc]
     exact Ret.some rfl
    ·rw[decide_eq_false hcc,ak,hc2,if_neg hcc]
     exact Ret.some rfl
   rintro _ rfl
   rw[ah]
   dsimp only[dX,c9]
   rw[aa,hz]
   dsimp only
   rw[ak]
   refine Ret.of_eq ((Ev (g:=g) (r:=0) (v:=q) hz' (by decide) (fun g'=>setF g' (upZ z) z r (fun g''=>some ((),(g'',rip,fl,nx,c2,()),m,l1,())))).trans (zc hz' (pM z) _)) rfl
  ·rw[if_neg h1]at hget
   have hu:upZ z=2:=if_neg h1
   have hhi:decide (16<=upZ z/\upZ z<=19)=false:=by rw[hu];decide
   rw[hhi,ak,ae (show inR (upZ z) 16=true by rw[hu];rfl),bQ (aR g (upZ z) (az .i)) z hz',aa,show bV (aR g (upZ z) (az .i)) z=lj g (upZ z) z by rw[hget,hu]]
   dsimp only
   rw[rq,aa]
   dsimp only
   rw[ak,bQ _ z hz',aa,tP (r:=0) (by decide)]
   dsimp only
   rw[hd,aa]
   dsimp only
   rw[hbr,aa]
   refine(Ret.bnd (Q:=fun y=>y=Sum.inl ((upZ z,q,r,()),(g,rip,fl,nx,c2,()),m,l1,(dX x ()),())) ?_ ?_).eq
   ·by_cases hcc:ok=false/\c1=0
    ·rw[decide_eq_true hcc,aE,hc2,if_pos hcc]
     exact Ret.some rfl
    ·rw[decide_eq_false hcc,ak,hc2,if_neg hcc]
     exact Ret.some rfl
   rintro _ rfl
   rw[ah]
   dsimp only[dX,c9]
   rw[aa,hz]
   dsimp only
   rw[ak]
   refine Ret.of_eq ((Ev (g:=g) (r:=0) (v:=q) hz' (by decide) (fun g'=>setF g' (upZ z) z r (fun g''=>some ((),(g'',rip,fl,nx,c2,()),m,l1,())))).trans (zc hz' (pM z) _)) rfl
end
noncomputable section
def mvB (n:Nat):Bool:=decide (n=9\/n=28\/n=25\/n=26\/n=27\/n=35\/n=36\/n=39\/n=40)
def wdB (n:Nat):Bool:=decide (n=13\/n=14\/n=15\/n=16)
def fwB (n:Nat):Bool:=decide (n=29\/n=30\/n=31\/n=34\/n=32\/n=33\/n=41\/n=42\/n=38\/n=43\/n=44\/n=37)
def exM (g:List Int)(rip fl:Int)(m:List Page)(x:Ins)(n z:Nat):MS×Int×Int:=
 let nx:=aB .i64 rip x.len
 let s:MS:=⟨g,m,0,[]⟩
 if mvB n=true then(s.move fl nx x n z,nx,fl)
 else if wdB n=true then((s.wide fl nx x n z).1,nx,(s.wide fl nx x n z).2)
 else if fwB n=true then((s.flow nx fl nx x n).1,(s.flow nx fl nx x n).2,fl)
 else((s.reck nx fl x n z).1,nx,(s.reck nx fl x n z).2)
def exR (g:List Int)(rip fl:Int)(m:List Page)(r:MS×Int×Int):((List Int×Int×Int×Unit)×Unit×Int×Unit)×List Page×List Acc×Unit:=
 if r.1.code≠0 then(((g,rip,fl,()),(),r.1.code,()),m,r.1.l,())else(((r.1.g,r.2.1,r.2.2,()),(),0,()),r.1.m,r.1.l,())
abbrev exT (g:List Int)(rip fl:Int)(m:List Page)(x:Ins):(List Int×Int×Int×Unit)×(List Page×Unit)×(Int×Int×Int×Int×Int×Int×Int×Int×Int×Int×Int×Int×Int×Int×Int×Int×Int×Int×Int×Unit)×(List Int×Int×Int×Unit)×Unit×TM:=
 (((g,rip,fl,()):List Int×Int×Int×Unit),(m,()),(dX x ()),(([]:List Int),0,0,()),(),(g,aB .i64 rip x.len,fl,aB .i64 rip x.len,0,()),m,([]:List Acc),())
theorem exec_m {g:List Int}{rip fl:Int}{m:List Page}{x:Ins}{n z:Nat}(hm:MemT m)(hg:iH g)(hI:I64 fl)(hf:bS fl=true)(hx:ExV x n)(hz:x.size=z):
  kK (((g,rip,fl,()),(m,()),x,()),())=some (exR g rip fl m (exM g rip fl m x n z))/\(exM g rip fl m x n z).1.ok 4/\bS (exM g rip fl m x n z).2.2=true/\I64 (exM g rip fl m x n z).2.2:=by
 have hs:(MS.mk g m 0 []).ok 0:=⟨hm,Nat.le_refl 0,hg⟩
 have hop:=hx.op
 have h1:=hx.n1
 have h2:=hx.n2
 have Dn:(yA (dX x ()))=x:=rfl
 have key:∃g' m' c' l' rip' fl',exM g rip fl m x n z=(⟨g',m',c',l'⟩,rip',fl')/\(MS.mk g' m' c' l').ok 4/\bS fl'=true/\I64 fl'/\
   (mvB n=true->rip'=aB .i64 rip x.len/\fl'=fl/\aA ((x,()),(g,aB .i64 rip x.len,fl,aB .i64 rip x.len,0,()),m,([]:List Acc),())=some ((),(g',aB .i64 rip x.len,fl,aB .i64 rip x.len,c',()),m',l',()))/\
   (mvB n=false->wdB n=true->rip'=aB .i64 rip x.len/\db ((x,()),(g,aB .i64 rip x.len,fl,aB .i64 rip x.len,0,()),m,([]:List Acc),())=some ((),(g',aB .i64 rip x.len,fl',aB .i64 rip x.len,c',()),m',l',()))/\
   (mvB n=false->wdB n=false->fwB n=true->fl'=fl/\ap ((x,()),(g,aB .i64 rip x.len,fl,aB .i64 rip x.len,0,()),m,([]:List Acc),())=some ((),(g',rip',fl,aB .i64 rip x.len,c',()),m',l',()))/\
   (mvB n=false->wdB n=false->fwB n=false->rip'=aB .i64 rip x.len/\cH ((x,()),(g,aB .i64 rip x.len,fl,aB .i64 rip x.len,0,()),m,([]:List Acc),())=some ((),(g',aB .i64 rip x.len,fl',aB .i64 rip x.len,c',()),m',l',())):=by
  unfold exM
  dsimp only
  cases hmv:mvB n with
  |true=>
   rw[if_pos rfl]
   have hn:=of_decide_eq_true hmv
   have hmove:∃g' m' c' l',(MS.mk g m 0 []).move fl (aB .i64 rip x.len) x n z=⟨g',m',c',l'⟩/\aA ((x,()),(g,aB .i64 rip x.len,fl,aB .i64 rip x.len,0,()),m,[],())=some ((),(g',aB .i64 rip x.len,fl,aB .i64 rip x.len,c',()),m',l',())/\(MS.mk g' m' c' l').ok (0+4):=by
    rcases hn with rfl|rfl|rfl|rfl|rfl|rfl|rfl|rfl|rfl
    ·exact move_9 hs (by decide) hx hz _ fl _
    ·exact move_28 hs (by decide) hx hz _ fl _
    ·exact move_25 hs (by decide) hx hz _ fl _
    ·exact move_26 hs (by decide) hx hz _ fl _
    ·exact move_27 hs (by decide) hx hz _ fl _
    ·exact move_35 hs (by decide) hx hz _ fl _
    ·exact move_36 hs (by decide) hx hz _ fl _
    ·exact move_39 hs (by decide) hx hz _ fl _
    ·exact move_40 hs (by decide) hx hz _ fl _
   obtain⟨g',m',c',l',e,r,ok⟩:=hmove
   exact⟨g',m',c',l',_,fl,by rw[e],ok,hf,hI,fun _=>⟨rfl,rfl,r⟩,(fun h=>by cases h),(fun h=>by cases h),(fun h=>by cases h)⟩
  |false=>
   rw[iD]
   cases hwd:wdB n with
   |true=>
    rw[if_pos rfl]
    have hn:=of_decide_eq_true hwd
    obtain⟨g',m',c',l',fl',e,r,ok,fI,ff⟩:=wide_m hs (by decide) hx (by omega) hz hI hf (aB .i64 rip x.len) (aB .i64 rip x.len)
    exact⟨g',m',c',l',_,fl',by rw[e],ok,ff,fI,(fun h=>by cases h),fun _ _=>⟨rfl,r⟩,(fun _ h=>by cases h),(fun _ h=>by cases h)⟩
   |false=>
    rw[iD]
    cases hfw:fwB n with
    |true=>
     rw[if_pos rfl]
     have hn:=of_decide_eq_true hfw
     have hflow:∃g' m' c' l' rip',(MS.mk g m 0 []).flow (aB .i64 rip x.len) fl (aB .i64 rip x.len) x n=(⟨g',m',c',l'⟩,rip')/\ap ((x,()),(g,aB .i64 rip x.len,fl,aB .i64 rip x.len,0,()),m,[],())=some ((),(g',rip',fl,aB .i64 rip x.len,c',()),m',l',())/\(MS.mk g' m' c' l').ok (0+3):=by
      rcases hn with rfl|rfl|rfl|rfl|rfl|rfl|rfl|rfl|rfl|rfl|rfl|rfl
      ·exact flow_29 hs (by decide) hx _ fl _
      ·exact flow_30 hs (by decide) hx _ fl _
      ·exact flow_31 hs (by decide) hx _ fl _
      ·exact flow_34 hs (by decide) hx _ fl _
      ·exact flow_32 hs (by decide) hx _ fl _
      ·exact flow_33 hs (by decide) hx _ fl _
      ·exact flow_41 hs (by decide) hx _ fl _
      ·exact flow_42 hs (by decide) hx _ fl _
      ·exact flow_38 hs (by decide) hx _ fl _
      ·exact flow_43 hs (by decide) hx _ fl _
      ·exact flow_44 hs (by decide) hx _ fl _
      ·exact flow_37 hs (by decide) hx _ fl _
     obtain⟨g',m',c',l',rip',e,r,ok⟩:=hflow
     exact⟨g',m',c',l',rip',fl,by rw[e],ok.mono (by decide),hf,hI,(fun h=>by cases h),(fun _ h=>by cases h),fun _ _ _=>⟨rfl,r⟩,(fun _ _ h=>by cases h)⟩
    |false=>
     rw[iD]
     have n1:=of_decide_eq_false hmv
     have n2:=of_decide_eq_false hwd
     have n3:=of_decide_eq_false hfw
     obtain⟨g',m',c',l',fl',e,r,ok,fI,ff⟩:=reck_m hs (by decide) hx (by omega) hz hI hf (aB .i64 rip x.len)
     exact⟨g',m',c',l',_,fl',by rw[e],ok.mono (by decide),ff,fI,(fun h=>by cases h),(fun _ h=>by cases h),(fun _ _ h=>by cases h),fun _ _ _=>⟨rfl,r _⟩⟩
 obtain⟨g',m',c',l',rip',fl',e,ok,ff,fI,k1,k2,k3,k4⟩:=key
 rw[e]
 refine⟨?_,ok,ff,fI⟩
 unfold kK
 dsimp only
 rw[nV m (by have:=hm.len;omega),aa,hop]
 dsimp only
 refine(Ret.bnd (Q:=fun y=>y=Sum.inl (((n:Int),mvB n,()),exT g rip fl m x)) ?_ ?_).eq
 ·by_cases h9:n=9
  ·rw[be,aE,show mvB n=true from dT]
   exact Ret.some rfl
  rw[aq,ak]
  refine Ret.bnd (Q:=fun y=>y=Sum.inl (((n:Int),mvB n,()),exT g rip fl m x)) ?_ (by rintro _ rfl;rw[ah];exact Ret.some rfl)
  by_cases h28:n=28
  ·rw[be,aE,show mvB n=true from dT]
   exact Ret.some rfl
  rw[aq,ak]
  refine Ret.bnd (Q:=fun y=>y=Sum.inl (((n:Int),mvB n,()),exT g rip fl m x)) ?_ (by rintro _ rfl;rw[ah];exact Ret.some rfl)
  by_cases h25:n=25
  ·rw[be,aE,show mvB n=true from dT]
   exact Ret.some rfl
  rw[aq,ak]
  refine Ret.bnd (Q:=fun y=>y=Sum.inl (((n:Int),mvB n,()),exT g rip fl m x)) ?_ (by rintro _ rfl;rw[ah];exact Ret.some rfl)
  by_cases h26:n=26
  ·rw[be,aE,show mvB n=true from dT]
   exact Ret.some rfl
  rw[aq,ak]
  refine Ret.bnd (Q:=fun y=>y=Sum.inl (((n:Int),mvB n,()),exT g rip fl m x)) ?_ (by rintro _ rfl;rw[ah];exact Ret.some rfl)
  by_cases h27:n=27
  ·rw[be,aE,show mvB n=true from dT]
   exact Ret.some rfl
  rw[aq,ak]
  refine Ret.bnd (Q:=fun y=>y=Sum.inl (((n:Int),mvB n,()),exT g rip fl m x)) ?_ (by rintro _ rfl;rw[ah];exact Ret.some rfl)
  by_cases h35:n=35
  ·rw[be,aE,show mvB n=true from dT]
   exact Ret.some rfl
  rw[aq,ak]
  refine Ret.bnd (Q:=fun y=>y=Sum.inl (((n:Int),mvB n,()),exT g rip fl m x)) ?_ (by rintro _ rfl;rw[ah];exact Ret.some rfl)
  by_cases h36:n=36
  ·rw[be,aE,show mvB n=true from dT]
   exact Ret.some rfl
  rw[aq,ak]
  refine Ret.bnd (Q:=fun y=>y=Sum.inl (((n:Int),mvB n,()),exT g rip fl m x)) ?_ (by rintro _ rfl;rw[ah];exact Ret.some rfl)
  by_cases h39:n=39
  ·rw[be,aE,show mvB n=true from dT]
   exact Ret.some rfl
  rw[aq,ak]
  rw[show eqI (n:Int) 40=mvB n from by unfold eqI;unfold mvB;rw[Bool.eq_iff_iff,decide_eq_true_eq,decide_eq_true_eq];omega]
  exact Ret.some rfl
 rintro _ rfl
 rw[ah]
 dsimp only[d6,p6,exT]
 rw[Dn]
 refine Ret.bnd (Q:=fun y=>y=Sum.inl ((),((g,rip,fl,()):List Int×Int×Int×Unit),(m,()),(([]:List Int),0,0,()),(),(g',rip',fl',aB .i64 rip x.len,c',()),m',l',())) ?_ ?_
 ·cases hmv:mvB n with
  |true=>
   obtain⟨rfl,rfl,r⟩:=k1 hmv
   rw[aE,r,aa]
   exact Ret.some rfl
  |false=>
   rw[ak]
   refine Ret.bnd (Q:=fun y=>y=Sum.inl (((n:Int),wdB n,()),exT g rip fl m x)) ?_ ?_
   ·by_cases h13:n=13
    ·rw[be,aE,show wdB n=true from dT]
     exact Ret.some rfl
    rw[aq,ak]
    refine Ret.bnd (Q:=fun y=>y=Sum.inl (((n:Int),wdB n,()),exT g rip fl m x)) ?_ (by rintro _ rfl;rw[ah];exact Ret.some rfl)
    by_cases h14:n=14
    ·rw[be,aE,show wdB n=true from dT]
     exact Ret.some rfl
    rw[aq,ak]
    refine Ret.bnd (Q:=fun y=>y=Sum.inl (((n:Int),wdB n,()),exT g rip fl m x)) ?_ (by rintro _ rfl;rw[ah];exact Ret.some rfl)
    by_cases h15:n=15
    ·rw[be,aE,show wdB n=true from dT]
     exact Ret.some rfl
    rw[aq,ak]
    rw[show eqI (n:Int) 16=wdB n from by unfold eqI;unfold wdB;rw[Bool.eq_iff_iff,decide_eq_true_eq,decide_eq_true_eq];omega]
    exact Ret.some rfl
   rintro _ rfl
   rw[ah]
   dsimp only[d6,p6,exT]
   rw[Dn]
   refine Ret.bnd (Q:=fun y=>y=Sum.inl ((),((g,rip,fl,()):List Int×Int×Int×Unit),(m,()),(([]:List Int),0,0,()),(),(g',rip',fl',aB .i64 rip x.len,c',()),m',l',())) ?_ (by rintro _ rfl;rw[ah];exact Ret.some rfl)
   cases hwd:wdB n with
   |true=>
    obtain⟨rfl,r⟩:=k2 hmv hwd
    rw[aE,r,aa]
    exact Ret.some rfl
   |false=>
    rw[ak]
    refine Ret.bnd (Q:=fun y=>y=Sum.inl ((fwB n,()),exT g rip fl m x)) ?_ ?_
    ·by_cases h29:n=29
     ·rw[be,aE,show fwB n=true from dT]
      exact Ret.some rfl
     rw[aq,ak]
     refine Ret.bnd (Q:=fun y=>y=Sum.inl ((fwB n,()),exT g rip fl m x)) ?_ (by rintro _ rfl;rw[ah];exact Ret.some rfl)
     by_cases h30:n=30
     ·rw[be,aE,show fwB n=true from dT]
      exact Ret.some rfl
     rw[aq,ak]
     refine Ret.bnd (Q:=fun y=>y=Sum.inl ((fwB n,()),exT g rip fl m x)) ?_ (by rintro _ rfl;rw[ah];exact Ret.some rfl)
     by_cases h31:n=31
     ·rw[be,aE,show fwB n=true from dT]
      exact Ret.some rfl
     rw[aq,ak]
     refine Ret.bnd (Q:=fun y=>y=Sum.inl ((fwB n,()),exT g rip fl m x)) ?_ (by rintro _ rfl;rw[ah];exact Ret.some rfl)
     by_cases h34:n=34
     ·rw[be,aE,show fwB n=true from dT]
      exact Ret.some rfl
     rw[aq,ak]
     refine Ret.bnd (Q:=fun y=>y=Sum.inl ((fwB n,()),exT g rip fl m x)) ?_ (by rintro _ rfl;rw[ah];exact Ret.some rfl)
     by_cases h32:n=32
     ·rw[be,aE,show fwB n=true from dT]
      exact Ret.some rfl
     rw[aq,ak]
     refine Ret.bnd (Q:=fun y=>y=Sum.inl ((fwB n,()),exT g rip fl m x)) ?_ (by rintro _ rfl;rw[ah];exact Ret.some rfl)
     by_cases h33:n=33
     ·rw[be,aE,show fwB n=true from dT]
      exact Ret.some rfl
     rw[aq,ak]
     refine Ret.bnd (Q:=fun y=>y=Sum.inl ((fwB n,()),exT g rip fl m x)) ?_ (by rintro _ rfl;rw[ah];exact Ret.some rfl)
     by_cases h41:n=41
     ·rw[be,aE,show fwB n=true from dT]
      exact Ret.some rfl
     rw[aq,ak]
     refine Ret.bnd (Q:=fun y=>y=Sum.inl ((fwB n,()),exT g rip fl m x)) ?_ (by rintro _ rfl;rw[ah];exact Ret.some rfl)
     by_cases h42:n=42
     ·rw[be,aE,show fwB n=true from dT]
      exact Ret.some rfl
     rw[aq,ak]
     refine Ret.bnd (Q:=fun y=>y=Sum.inl ((fwB n,()),exT g rip fl m x)) ?_ (by rintro _ rfl;rw[ah];exact Ret.some rfl)
     by_cases h38:n=38
     ·rw[be,aE,show fwB n=true from dT]
      exact Ret.some rfl
     rw[aq,ak]
     refine Ret.bnd (Q:=fun y=>y=Sum.inl ((fwB n,()),exT g rip fl m x)) ?_ (by rintro _ rfl;rw[ah];exact Ret.some rfl)
     by_cases h43:n=43
     ·rw[be,aE,show fwB n=true from dT]
      exact Ret.some rfl
     rw[aq,ak]
     refine Ret.bnd (Q:=fun y=>y=Sum.inl ((fwB n,()),exT g rip fl m x)) ?_ (by rintro _ rfl;rw[ah];exact Ret.some rfl)
     by_cases h44:n=44
     ·rw[be,aE,show fwB n=true from dT]
      exact Ret.some rfl
     rw[aq,ak]
     rw[show eqI (n:Int) 37=fwB n from by unfold eqI;unfold fwB;rw[Bool.eq_iff_iff,decide_eq_true_eq,decide_eq_true_eq];omega]
     exact Ret.some rfl
    rintro _ rfl
    rw[ah]
    dsimp only[d6,p6,exT]
    rw[Dn]
    refine Ret.bnd (Q:=fun y=>y=Sum.inl ((),((g,rip,fl,()):List Int×Int×Int×Unit),(m,()),(([]:List Int),0,0,()),(),(g',rip',fl',aB .i64 rip x.len,c',()),m',l',())) ?_ (by rintro _ rfl;rw[ah];exact Ret.some rfl)
    cases hfw:fwB n with
    |true=>
     obtain⟨rfl,r⟩:=k3 hmv hwd hfw
     rw[aE,r,aa]
     exact Ret.some rfl
    |false=>
     obtain⟨rfl,r⟩:=k4 hmv hwd hfw
     rw[ak,r,aa]
     exact Ret.some rfl
 rintro _ rfl
 rw[ah]
 dsimp only[d5,p5,d6,d7]
 unfold exR
 dsimp only
 by_cases hc:c'=0
 ·rw[hc,be rfl,bE,ak,iD]
  exact Ret.some rfl
 ·rw[aq hc,bU,aE,if_pos hc,nV m (by have:=hm.len;omega),aa]
  exact Ret.some rfl
end
noncomputable section
theorem n9 {c f:Int}(h0:0<=c)(h1:c<=15):dp ((c,f,()),())=some (jl c f,()):=by
 unfold dp
 dsimp only
 have hs:∀b,aQ (eqI (cz .i64 f b) 0)=ma f b:=fun b=>by
  unfold ma
  cases eqI (cz .i64 f b) 0<;>rfl
 simp only[hs]
 have o1:br (ma f 1) (some true) (some (ma f 64))=some (ma f 1||ma f 64):=by cases ma f 1<;>rfl
 have o2:br (ma f 64) (some true) (some (aQ (eqB (ma f 128) (ma f 2048))))=some (ma f 64||(ma f 128 != ma f 2048)):=by rw[neB];cases ma f 64<;>rfl
 rw[o1,aa,o2,aa,fS h0 (by decide) (by omega),ae (cA),dG h0,neB]
 congr 2
theorem ec (a b:Int):aX ((a,b,()),())=some (aB .i64 a b,()):=by
 unfold aX
 dsimp only
 congr 2
 unfold aj
 rw[Cq]
 unfold aB
 refine lY ?_
 rw[fh,fh]
 omega
theorem rB {g:List Int}{rip fl r:Int}{n:Nat}(hg:iH g)(hn:cl (n:Int)=true)(hr:r8 r n):eg (((g,rip,fl,()),r,(n:Int),()),())=some (lj g r n,()):=by
 unfold r8 at hr
 unfold eg lj
 dsimp only
 by_cases h16:16<=r
 ·rw[fu h16,aE,if_pos h16,bn,ae (cA)]
  have h1:=bw (v:=aj .i64 (cu .u64 (aj .u64 (aR g (r-16) (az .i))) 8)) (iA _) 1 rfl
  have h1':an (((aj .i64 (cu .u64 (aj .u64 (aR g (r-16) (az .i))) 8)),1,()),())=_:=h1
  rw[h1',aa]
  have hI:=hg (r-16)
  obtain⟨v,hv⟩:∃v,v=aR g (r-16) (az .i):=⟨_,rfl⟩
  rw[<-hv]
  have hI:I64 v:=by rw[hv];exact hI
  unfold I64 at hI
  have e:bV (aj .i64 (cu .u64 (aj .u64 v) 8)) 1=bV (cu .i64 v 8) 1:=by
   unfold bV
   rw[iD,iD]
   have hs:cu .u64 (aj .u64 v) 8=aj .u64 v/256:=sl _ 8 (by decide)
   have hs2:cu .i64 v 8=v/256:=by
    unfold cu
    rw[show(2:Int)^min (Int.toNat 8) IntKind.i64.bits=256 from rfl,Int.fdiv_eq_ediv_of_nonneg _ (by decide)]
   rw[hs,hs2]
   have hw:aj .u64 v=v%18446744073709551616:=fh
   rw[hw,show(2:Int)^(8*1)=256 from rfl]
   have:=mZ (v%18446744073709551616/256)
   unfold aj
   omega
  rw[e,hv]
 ·rw[j9 h16,ak,if_neg h16,ae (cA),bw (hg r) n hn,aa]
end
noncomputable section
theorem ue {a b:Int}(h:a%18446744073709551616=b%18446744073709551616):BitVec.ofInt 64 a=BitVec.ofInt 64 b:=by
 apply BitVec.eq_of_toNat_eq
 rw[BitVec.toNat_ofInt,BitVec.toNat_ofInt]
 show(a%18446744073709551616).toNat=(b%18446744073709551616).toNat
 rw[h]
theorem wy {a b c d:Int}(h1:a%18446744073709551616=c%18446744073709551616)(h2:b%18446744073709551616=d%18446744073709551616):aj .i64 (ior .u64 a b)=ior .i64 c d:=by
 unfold ior aj
 refine lY ?_
 rw[fh,Int.emod_emod]
 show((BitVec.ofInt 64 a|||BitVec.ofInt 64 b).toNat:Int)%_=((BitVec.ofInt 64 c|||BitVec.ofInt 64 d).toNat:Int)%_
 rw[ue h1,ue h2]
theorem rj {a b m:Int}(h:a%18446744073709551616=b%18446744073709551616):gP .u64 a m%18446744073709551616=gP .i64 b m%18446744073709551616:=by
 unfold gP
 rw[fh,Int.emod_emod,mZ]
 show((BitVec.ofInt 64 a&&& ~~~BitVec.ofInt 64 m).toNat:Int)%_=((BitVec.ofInt 64 b&&& ~~~BitVec.ofInt 64 m).toNat:Int)%_
 rw[ue h]
theorem Do (a:Int)(k:Nat)(hk:k<=63):uns (gP .i64 a ((2^k-1:Nat):Int))=2^k*(uns a/2^k):=by
 unfold gP
 rw[b8]
 show uns (((BitVec.ofInt 64 a&&& ~~~BitVec.ofInt 64 ((2^k-1:Nat):Int)).toNat:Nat):Int)=_
 rw[fg (BitVec.isLt _)]
 have hm:(BitVec.ofInt 64 ((2^k-1:Nat):Int)).toNat=2^k-1:=by
  have hlt:2^k-1<2^64:=Nat.lt_of_lt_of_le (Nat.sub_lt (Nat.two_pow_pos k) (by decide)) (Nat.pow_le_pow_right (by decide) (by omega))
  rw[BitVec.toNat_ofInt]
  have:(((2^k-1:Nat):Int)%((2^64:Nat):Int))=(((2^k-1)%2^64:Nat):Int):=(Int.natCast_emod ..).symm
  rw[this,Int.toNat_natCast,Nat.mod_eq_of_lt hlt]
 refine Nat.eq_of_testBit_eq fun i=>?_
 rw[<-BitVec.getLsbD,BitVec.getLsbD_and,BitVec.getLsbD_not]
 rw[BitVec.getLsbD,BitVec.getLsbD,hm,Nat.testBit_two_pow_sub_one,Nat.testBit_two_pow_mul]
 show((uns a).testBit i&&_)=_
 rw[Nat.testBit_div_two_pow]
 by_cases h:i<64
 ·by_cases hki:k<=i
  ·rw[decide_eq_true h,dF,decide_eq_true hki,show i-k+k=i by omega];simp
  ·rw[decide_eq_true h,decide_eq_true (show i<k by omega),decide_eq_false hki];simp
 ·have:(uns a).testBit i=false:=Nat.testBit_lt_two_pow (Nat.lt_of_lt_of_le (eJ a) (Nat.pow_le_pow_right (by decide) (by omega)))
  by_cases hki:k<=i
  ·rw[this,decide_eq_true hki,show i-k+k=i by omega,this];simp
  ·omega
theorem set_low {x v:Int}{n:Nat}(hn:n=1\/n=2)(hx:I64 x)(hv:I64 v)(m:Int)(hm:m=((2^(8*n)-1:Nat):Int)):
  aj .i64 (ior .u64 (gP .u64 (aj .u64 x) m) (dD .u64 (aj .u64 (bV v n)) 0))=aB .i64 x (aT .i64 (bV v n) (bV x n)):=by
 have hs:cl (n:Int)=true:=by rcases hn with rfl|rfl<;>rfl
 have hw:∀z:Int,aj .u64 z=z%18446744073709551616:=fun z=>fh
 have e0:dD .u64 (aj .u64 (bV v n)) 0=aj .u64 (bV v n)%18446744073709551616:=by
  have:=Az (aj .u64 (bV v n)) 0 (by decide)
  rw[Int.pow_zero,Int.mul_one]at this
  exact this
 have h1:=rj (a:=aj .u64 x) (b:=x) (m:=m) (by rw[hw];omega)
 have h2:dD .u64 (aj .u64 (bV v n)) 0%18446744073709551616=bV v n%18446744073709551616:=by rw[e0,hw];omega
 rw[wy h1 h2]
 refine j6 (ly ..) (au _) ?_
 rw[mV,hm,Do x _ (by omega),cB hv hs,<-Nat.two_pow_add_eq_or_of_lt (gO v n)]
 unfold aB aT
 rw[b8]
 have hl:=cB hv hs
 have hl2:=cB hx hs
 have c1:=bt (bV v n)
 have c2:=bt (bV x n)
 have c3:=bt x
 rw[hl]at c1
 rw[hl2]at c2
 have hlx:cg x n=uns x%2^(8*n):=rfl
 have hdm:=Nat.div_add_mod (uns x) (2^(8*n))
 have hux:=eJ x
 have hlv:=gO v n
 have hP:2^(8*n)<=65536:=by rcases hn with rfl|rfl<;>decide
 have hz:=bt (x+IntKind.wrap .i64 (bV v n-bV x n))
 have hwe:=mZ (bV v n-bV x n)
 rw[show(2:Int)^64=18446744073709551616 from rfl]at*
 have key:((uns (x+IntKind.wrap .i64 (bV v n-bV x n)):Nat):Int)=((2^(8*n)*(uns x/2^(8*n))+cg v n:Nat):Int):=by
  rw[hz]
  have hbd:2^(8*n)*(uns x/2^(8*n))+cg v n<18446744073709551616:=by
   have hd64:2^(8*n)*(uns x/2^(8*n))+2^(8*n)<=2^64:=by
    have hq:uns x/2^(8*n)<2^(64-8*n):=Nat.div_lt_of_lt_mul (by rw[<-Nat.pow_add,show 8*n+(64-8*n)=64 by omega];exact hux)
    have:2^(8*n)*(uns x/2^(8*n)+1)<=2^(8*n)*2^(64-8*n):=Nat.mul_le_mul_left _ hq
    rw[<-Nat.pow_add,show 8*n+(64-8*n)=64 by omega,Nat.mul_add,Nat.mul_one]at this
    exact this
   exact Nat.lt_of_lt_of_le (Nat.add_lt_add_left hlv _) hd64
  rw[Int.natCast_add]
  obtain⟨A,hA⟩:∃A,A=2^(8*n)*(uns x/2^(8*n)):=⟨_,rfl⟩
  rw[<-hA]at hdm hbd|-
  rw[<-hlx]at hdm
  generalize IntKind.wrap .i64 (bV v n-bV x n)=W at*
  omega
 omega
end
noncomputable section
theorem ishl8 (v:Int):dD .u64 (aj .u64 v) 8%18446744073709551616=dD .i64 v 8%18446744073709551616:=by
 have h1:dD .u64 (aj .u64 v) 8=aj .u64 v*256%18446744073709551616:=Az (aj .u64 v) 8 (by decide)
 have h2:aj .u64 v=v%18446744073709551616:=fh
 have h3:dD .i64 v 8=IntKind.wrap .i64 (v*256):=rfl
 rw[h1,h2,h3,mZ]
 omega
theorem jN {g:List Int}{rip fl r v:Int}{n:Nat}(hg:iH g)(hv:I64 v)(hn:cl (n:Int)=true)(hr:r8 r n):
  bZ (((g,rip,fl,()),r,(n:Int),v,()),())=some ((qd g r n v,rip,fl,()),()):=by
 have h1:=bw hv n hn
 have h4:=uM hn
 unfold r8 at hr
 unfold bZ qd Go.Den.G.setA
 dsimp only
 rw[h1,aa]
 dsimp only
 by_cases h16:16<=r
 ·have hn1:n=1:=by omega
  subst hn1
  rw[fu h16,aE,aa,ah,if_pos h16,bn]
  dsimp only
  rw[show leI 4 ((1:Nat):Int)=false from rfl,ak,show bK .i64 8 ((1:Nat):Int)=8 from rfl,show aj .u64 8=8 from rfl,show leI 0 8=true from rfl,aE,aE,ae (cA),aE,ae (cA)]
  rw[show dD .u64 (aT .u64 (dD .u64 1 8) 1) 8=65280 from by decide]
  have e:=wy (a:=gP .u64 (aj .u64 (aR g (r-16) (az .i))) 65280) (b:=dD .u64 (aj .u64 (bV v 1)) 8) (c:=gP .i64 (aR g (r-16) (az .i)) 65280) (d:=dD .i64 (bV v 1) 8)
   (rj (by rw[show aj .u64 (aR g (r-16) (az .i))=_ from fh,Int.emod_emod])) (ishl8 _)
  rw[e]
 ·rw[j9 h16,ak,aa,ah,if_neg h16]
  dsimp only
  by_cases h4':4<=n
  ·rw[ae (fu),ae (cA),if_pos h4']
  ·rw[ag (j9),if_neg h4']
   have hI:=hg r
   have hn12:n=1\/n=2:=by omega
   have e:=set_low (x:=rg g r) (v:=v) (n:=n) hn12 hI hv ((2^(8*n)-1:Nat):Int) rfl
   rcases hn12 with rfl|rfl
   ·rw[show bK .i64 8 ((1:Nat):Int)=8 from rfl,show aj .u64 8=8 from rfl,show aj .u64 0=0 from rfl,show leI 0 8=true from rfl,show leI 0 0=true from rfl,aE,aE,ae (cA),aE,ae (cA)]
    rw[show dD .u64 (aT .u64 (dD .u64 1 8) 1) 0=((2^(8*1)-1:Nat):Int)from by decide]
    rw[e]
   ·rw[show bK .i64 8 ((2:Nat):Int)=16 from rfl,show aj .u64 16=16 from rfl,show aj .u64 0=0 from rfl,show leI 0 16=true from rfl,show leI 0 0=true from rfl,aE,aE,ae (cA),aE,ae (cA)]
    rw[show dD .u64 (aT .u64 (dD .u64 1 16) 1) 0=((2^(8*2)-1:Nat):Int)from by decide]
    rw[e]
theorem mul_u (a b:Int):aj .i64 (bK .u64 (aj .u64 a) (aj .u64 b))=bK .i64 a b:=by
 have h1:∀z:Int,aj .u64 z=z%18446744073709551616:=fun z=>fh
 unfold aj bK
 refine lY ?_
 rw[fh,fh,fh,Int.emod_emod,Int.mul_emod a b,<-Int.mul_emod]
theorem mb {g:List Int}{rip fl nx:Int}{o:Opd}(hb:o.base<=16/\o.index<=15):
  ck (((g,rip,fl,()),c9 o (),nx,()),())=some (nC g nx o,()):=by
 unfold ck nC c9
 dsimp only
 refine(Ret.bnd (Q:=fun y=>y=Sum.inl ((if o.base=16 then aB .i64 o.disp nx else if 0<=o.base then aB .i64 o.disp (rg g o.base)else o.disp,()),(g,rip,fl,()),(o.kind,o.reg,o.base,o.index,o.scale,o.disp,o.imm,()),())) ?_ ?_).eq
 ·by_cases b16:o.base=16
  ·rw[be b16,aE,if_pos b16,ec,aa]
   exact Ret.some rfl
  ·rw[aq b16,ak,if_neg b16]
   by_cases hb0:0<=o.base
   ·rw[ae (fu hb0),ae (cA hb0 (by omega)),if_pos hb0,ec,aa,aa,ah]
    exact Ret.some rfl
   ·rw[ag (j9 hb0),if_neg hb0,aa,ah]
    exact Ret.some rfl
 rintro _ rfl
 rw[ah]
 dsimp only
 by_cases hi:0<=o.index
 ·rw[ae (fu hi),ae (cA hi (by omega)),if_pos hi,mul_u,ec,aa]
  exact Ret.some rfl
 ·rw[ag (j9 hi),if_neg hi]
  exact Ret.some rfl
theorem yE (m:List Page)(hm:MemT m)(a v:Int)(n:Nat)(hn:cl (n:Int)=true)(ha:I64 a):
  gk (((m,()),a,(n:Int),v,()),())=some ((((kX m a n v).1,()),(kX m a n v).2,()),()):=by
 obtain⟨n1,n8⟩:=dL hn
 obtain⟨_,hs⟩:=vw m hm a v n hn ha
 generalize kX m a n v=s at hs|-
 obtain⟨x,e⟩:=s
 dsimp only at hs|-
 unfold gk
 dsimp only
 rw[kF m hm.r a 2 n n1 (by omega) ha,aa]
 dsimp only
 rcases hs with ⟨_,rfl,he,hf⟩|⟨rfl,hf,hx⟩
 ·rw[aq hf,bU,aE,he]
 ·have hok:=lN hm.r n 0 hf
  have hok:∀k,k<(leB v n).length->¬fnd m (a+(k:Nat))<0:=fun k hk=>hok k (Nat.zero_le _) (by rw[py]at hk;omega)
  obtain⟨y,hy1,hy2⟩:=H9 m hm a (leB v n) ha (by rw[py];omega) hok
  rw[py]at hy2
  rw[hf,be rfl,bE,ak,wC v n n8,aa,hy1,aa,hy2.unique hx]
abbrev TR:=(List Int×Int×Int×List Page×Int×Int×Unit)×List Acc×Unit
def MS.r (s:MS)(rip fl nx:Int):TR:=((s.g,rip,fl,s.m,nx,s.code,()),s.l,())
theorem DL {s:MS}{k:Nat}(hs:s.ok k)(hk:k<=1000){a:Int}(ha:I64 a){n:Nat}(hn:cl (n:Int)=true)(rip fl nx:Int):
  bA ((a,(n:Int),()),s.r rip fl nx)=some ((s.ld a n).1,(s.ld a n).2.r rip fl nx):=by
 obtain⟨n1,n8⟩:=dL hn
 unfold bA MS.r MS.ld
 dsimp only
 by_cases hc:s.code=0
 ·rw[hc,if_neg (by simp),be rfl,bE,ak,qf _ hs.m.r a n n1 n8 ha,aa]
  dsimp only
  rw[F5 (Nat.le_trans hs.l hk),aE]
  rfl
 ·rw[if_pos hc,aq hc,bU,aE]
theorem zk {s:MS}{k:Nat}(hs:s.ok k)(hk:k<=1000){a v:Int}(ha:I64 a)(hv:I64 v){n:Nat}(hn:cl (n:Int)=true)(rip fl nx:Int):
  bg ((a,(n:Int),v,()),s.r rip fl nx)=some ((),(s.st a n v).r rip fl nx):=by
 unfold bg MS.r MS.st
 dsimp only
 by_cases hc:s.code=0
 ·rw[hc,if_neg (by simp),be rfl,bE,ak,yE _ hs.m a v n hn ha,aa,bw hv n hn,aa]
  dsimp only
  rw[F5 (Nat.le_trans hs.l hk),aE]
  rfl
 ·rw[if_pos hc,aq hc,bU,aE]
theorem get_r {s:MS}{k:Nat}(hs:s.ok k)(hk:k<=1000){o:Opd}{n:Nat}(hn:cl (n:Int)=true)(hv:OpV o n)(rip fl nx:Int):
  ax ((c9 o (),(n:Int),()),s.r rip fl nx)=some ((s.rd nx o n).1,(s.rd nx o n).2.r rip fl nx):=by
 have hI:=l6 (g:=s.g) (nx:=nx) hv
 have hl:=DL hs hk hI hn rip fl nx
 have hg:=(hs.ld (nC s.g nx o) n).2.2
 unfold ax MS.rd
 dsimp only[c9]
 by_cases h1:o.kind=1
 ·have hr:=hv.r (by omega) h1
  rw[if_pos h1,be h1,aE]
  have h:=rB (rip:=rip) (fl:=fl) hs.g hn hr
  unfold MS.r
  dsimp only
  rw[h,aa]
 ·rw[if_neg h1,aq h1,ak]
  by_cases h2:o.kind=2
  ·rw[if_pos h2,be h2,aE]
   have h:=mb (g:=s.g) (rip:=rip) (fl:=fl) (nx:=nx) (hv.b h2)
   unfold MS.r at hl|-
   unfold c9 at h
   dsimp only at hl|-
   rw[h,aa]
   dsimp only
   rw[hl,aa]
   dsimp only
   rw[hg.1,hg.2]
  ·rw[if_neg h2,aq h2,ak]
theorem put_r {s:MS}{k:Nat}(hs:s.ok k)(hk:k<=1000){o:Opd}{n:Nat}{v:Int}(hI:I64 v)(hn:cl (n:Int)=true)(hv:OpV o n)(h0:o.kind=1\/o.kind=2)(rip fl nx:Int):
  aL ((c9 o (),(n:Int),v,()),s.r rip fl nx)=some ((),(s.wr nx o n v).r rip fl nx):=by
 have hA:=l6 (g:=s.g) (nx:=nx) hv
 have hl:=zk hs hk (v:=v) hA hI hn rip fl nx
 have hg:=(hs.st (v:=v) hA hn).2
 unfold aL MS.wr
 dsimp only[c9]
 by_cases h2:o.kind=2
 ·rw[if_pos h2,aq,ak]
  have h:=mb (g:=s.g) (rip:=rip) (fl:=fl) (nx:=nx) (hv.b h2)
  unfold MS.r at hl|-
  unfold c9 at h
  dsimp only at hl|-
  rw[h,aa]
  dsimp only
  rw[hl,aa]
  dsimp only
  rw[hg]
 ·have h1:o.kind=1:=by omega
  have hr:=hv.r h2 h1
  rw[if_neg h2,be h1,aE]
  have h:=jN (rip:=rip) (fl:=fl) hs.g hI hn hr
  unfold MS.r
  dsimp only
  rw[h,aa]
theorem push_r {s:MS}{k:Nat}(hs:s.ok k)(hk:k<=1000){v:Int}(hv:I64 v)(rip fl nx:Int):cr ((v,()),s.r rip fl nx)=some ((),(s.pu v).r rip fl nx):=by
 have h1:=hs.setA (i:=4) (v:=aT .i64 (rg s.g 4) 8) (au _)
 have h2:=zk h1 hk (a:=rg (setA s.g 4 (aT .i64 (rg s.g 4) 8)) 4) (v:=v) (n:=8) (h1.g 4) hv rfl rip fl nx
 have h3:=(h1.st (a:=rg (setA s.g 4 (aT .i64 (rg s.g 4) 8)) 4) (n:=8) (h1.g 4) rfl v).2
 have e:aB .i64 (rg s.g 4) (-8)=aT .i64 (rg s.g 4) 8:=by unfold aB aT;rw[Int.sub_eq_add_neg]
 unfold cr
 unfold MS.r at h2|-
 dsimp only at h2 h3|-
 have e':aX (((aR s.g 4 (az .i)),-8,()),())=some (aT .i64 (rg s.g 4) 8,()):=by rw[ec];rw[<-e]
 rw[e',aa]
 dsimp only
 have h2':bg (((aR (cF (dW 16 (az .i) s.g) 4 (aT .i64 (rg s.g 4) 8)) 4 (az .i)),8,v,()),((cF (dW 16 (az .i) s.g) 4 (aT .i64 (rg s.g 4) 8)),rip,fl,s.m,nx,s.code,()),s.l,())=_:=h2
 rw[h2',aa]
 unfold MS.pu
 dsimp only
 rw[h3]
 rfl
theorem pop_r {s:MS}{k:Nat}(hs:s.ok k)(hk:k<=1000)(rip fl nx:Int):cI ((),s.r rip fl nx)=some (s.po.1,s.po.2.r rip fl nx):=by
 have h2:=DL hs hk (a:=rg s.g 4) (n:=8) (hs.g 4) rfl rip fl nx
 have h3:=(hs.ld (rg s.g 4) 8).2.2
 unfold cI
 unfold MS.r at h2|-
 dsimp only at h2|-
 have h2':bA (((aR s.g 4 (az .i)),8,()),(s.g,rip,fl,s.m,nx,s.code,()),s.l,())=_:=h2
 rw[h2',aa,ec,aa]
 unfold MS.po
 dsimp only
 rw[h3.2]
 rfl
theorem goal_r {s:MS}{k:Nat}(hs:s.ok k)(hk:k<=1000){x:Ins}(hv:OpV x.src 8)(rip fl nx:Int):bO ((x,()),s.r rip fl nx)=some ((s.go nx x).1,(s.go nx x).2.r rip fl nx):=by
 have hr:=get_r hs hk (n:=8) rfl hv rip fl nx
 have hg:=(hs.rd nx (n:=8) rfl hv).2.2
 unfold bO MS.go
 dsimp only
 by_cases h3:x.src.kind=3
 ·rw[be h3,aE,if_pos h3]
  have h:=ec nx x.src.imm
  unfold MS.r
  dsimp only
  rw[h,aa]
 ·rw[aq h3,ak,if_neg h3]
  have hr':ax ((c9 x.src (),8,()),s.r rip fl nx)=_:=hr
  rw[hr',aa]
  unfold MS.r
  dsimp only
  rw[hg.1,hg.2]
end
set_option linter.unusedSectionVars false
noncomputable section
theorem gtq {g:List Int}{m:List Page}{c:Int}{l:List Acc}{k:Nat}(hs:(MS.mk g m c l).ok k)(hk:k<=1000){o:Opd}{n:Nat}(hn:cl (n:Int)=true)(hv:OpV o n)(nx:Int):
  ∃v c' l',(MS.mk g m c l).rd nx o n=(v,⟨g,m,c',l'⟩)/\(∀rip fl,ax ((c9 o (),(n:Int),()),(g,rip,fl,m,nx,c,()),l,())=some (v,(g,rip,fl,m,nx,c',()),l',()))/\(MS.mk g m c' l').ok (k+1)/\I64 v:=by
 obtain⟨h1,h2,h3,h4⟩:=hs.rd nx hn hv
 have h5:=fun rip fl=>get_r hs hk hn hv rip fl nx
 obtain⟨v,c',l',e⟩:=BB h3 h4
 rw[e]at h1 h2
 refine⟨v,c',l',e,fun rip fl=>?_,h1,h2⟩
 have:=h5 rip fl
 rw[e]at this
 exact this
theorem ptq {g:List Int}{m:List Page}{c:Int}{l:List Acc}{k:Nat}(hs:(MS.mk g m c l).ok k)(hk:k<=1000){o:Opd}{n:Nat}(hn:cl (n:Int)=true)(hv:OpV o n)(h0:o.kind=1\/o.kind=2)(nx:Int){v:Int}(hI:I64 v):
  ∃g' m' c' l',(MS.mk g m c l).wr nx o n v=⟨g',m',c',l'⟩/\(∀rip fl,aL ((c9 o (),(n:Int),v,()),(g,rip,fl,m,nx,c,()),l,())=some ((),(g',rip,fl,m',nx,c',()),l',()))/\(MS.mk g' m' c' l').ok (k+1):=
 ⟨_,_,_,_,rfl,fun rip fl=>put_r hs hk hI hn hv h0 rip fl nx,hs.wr nx hI hn hv⟩
theorem puq {g:List Int}{m:List Page}{c:Int}{l:List Acc}{k:Nat}(hs:(MS.mk g m c l).ok k)(hk:k<=1000){v:Int}(hv:I64 v):
  ∃g' m' c' l',(MS.mk g m c l).pu v=⟨g',m',c',l'⟩/\(∀rip fl nx,cr ((v,()),(g,rip,fl,m,nx,c,()),l,())=some ((),(g',rip,fl,m',nx,c',()),l',()))/\(MS.mk g' m' c' l').ok (k+1):=
 ⟨_,_,_,_,rfl,fun rip fl nx=>push_r hs hk hv rip fl nx,hs.pu v⟩
theorem poq {g:List Int}{m:List Page}{c:Int}{l:List Acc}{k:Nat}(hs:(MS.mk g m c l).ok k)(hk:k<=1000):
  ∃v g' c' l',(MS.mk g m c l).po=(v,⟨g',m,c',l'⟩)/\(∀rip fl nx,cI ((),(g,rip,fl,m,nx,c,()),l,())=some (v,(g',rip,fl,m,nx,c',()),l',()))/\(MS.mk g' m c' l').ok (k+1)/\I64 v:=by
 obtain⟨h1,h2,h3⟩:=hs.po
 have h5:=fun rip fl nx=>pop_r hs hk rip fl nx
 obtain⟨v,g',c',l',e⟩:∃v g' c' l',(MS.mk g m c l).po=(v,MS.mk g' m c' l'):=by
  generalize (MS.mk g m c l).po=r at h3
  obtain⟨v,g',m',c',l'⟩:=r
  cases h3
  exact⟨v,g',c',l',rfl⟩
 rw[e]at h1 h2
 refine⟨v,g',c',l',e,fun rip fl nx=>?_,h1,h2⟩
 have:=h5 rip fl nx
 rw[e]at this
 exact this
theorem goq {g:List Int}{m:List Page}{c:Int}{l:List Acc}{k:Nat}(hs:(MS.mk g m c l).ok k)(hk:k<=1000){x:Ins}(hv:OpV x.src 8)(nx:Int):
  ∃v c' l',(MS.mk g m c l).go nx x=(v,⟨g,m,c',l'⟩)/\(∀rip fl,bO ((x,()),(g,rip,fl,m,nx,c,()),l,())=some (v,(g,rip,fl,m,nx,c',()),l',()))/\(MS.mk g m c' l').ok (k+1)/\I64 v:=by
 obtain⟨h1,h2⟩:=hs.go nx hv
 have h5:=fun rip fl=>goal_r hs hk hv rip fl nx
 have h3:((MS.mk g m c l).go nx x).2.g=g/\((MS.mk g m c l).go nx x).2.m=m:=by
  unfold MS.go
  split
  ·exact⟨rfl,rfl⟩
  ·exact(hs.rd nx (n:=8) rfl hv).2.2
 obtain⟨v,c',l',e⟩:=BB h3.1 h3.2
 rw[e]at h1 h2
 refine⟨v,c',l',e,fun rip fl=>?_,h1,h2⟩
 have:=h5 rip fl
 rw[e]at this
 exact this
theorem ldq {g:List Int}{m:List Page}{c:Int}{l:List Acc}{k:Nat}(hs:(MS.mk g m c l).ok k)(hk:k<=1000){a:Int}(ha:I64 a){n:Nat}(hn:cl (n:Int)=true):
  ∃v c' l',(MS.mk g m c l).ld a n=(v,⟨g,m,c',l'⟩)/\(∀rip fl nx,bA ((a,(n:Int),()),(g,rip,fl,m,nx,c,()),l,())=some (v,(g,rip,fl,m,nx,c',()),l',()))/\(MS.mk g m c' l').ok (k+1)/\I64 v:=by
 obtain⟨h1,h2,h3,h4⟩:=hs.ld a n
 have h5:=fun rip fl nx=>DL hs hk ha hn rip fl nx
 obtain⟨v,c',l',e⟩:=BB h3 h4
 rw[e]at h1 h2
 refine⟨v,c',l',e,fun rip fl nx=>?_,h1,h2⟩
 have:=h5 rip fl nx
 rw[e]at this
 exact this
theorem stq {g:List Int}{m:List Page}{c:Int}{l:List Acc}{k:Nat}(hs:(MS.mk g m c l).ok k)(hk:k<=1000){a:Int}(ha:I64 a){n:Nat}(hn:cl (n:Int)=true){v:Int}(hv:I64 v):
  ∃m' c' l',(MS.mk g m c l).st a n v=⟨g,m',c',l'⟩/\(∀rip fl nx,bg ((a,(n:Int),v,()),(g,rip,fl,m,nx,c,()),l,())=some ((),(g,rip,fl,m',nx,c',()),l',()))/\(MS.mk g m' c' l').ok (k+1):=by
 obtain⟨h1,h2⟩:=hs.st ha hn v
 have h5:=fun rip fl nx=>zk hs hk ha hv hn rip fl nx
 obtain⟨m',c',l',e⟩:∃m' c' l',(MS.mk g m c l).st a n v=⟨g,m',c',l'⟩:=by
  generalize (MS.mk g m c l).st a n v=r at h2
  obtain⟨g',m',c',l'⟩:=r
  cases h2
  exact⟨m',c',l',rfl⟩
 rw[e]at h1
 refine⟨m',c',l',e,fun rip fl nx=>?_,h1⟩
 have:=h5 rip fl nx
 rw[e]at this
 exact this
def RelR (S:MS)(nx fl:Int)(e:MS×Int×Int):Prop:=S.l=e.1.l/\S.code=e.1.code/\(e.1.code=0->S=e.1/\nx=e.2.1/\fl=e.2.2)
theorem RelR.same {S:MS}{nx fl:Int}{e:MS×Int×Int}(h:e=(S,nx,fl)):RelR S nx fl e:=by subst h;exact⟨rfl,rfl,fun _=>⟨rfl,rfl,rfl⟩⟩
def fQ (g:List Int)(m:List Page)(c:Int)(l:List Acc)(x:Ins)(rip fl nx:Int)(e:MS×Int×Int):Prop:=
 ∃S fl' nx',aZ ((x,()),(g,rip,fl,m,nx,c,()),l,())=some ((),S.r rip fl' nx')/\RelR S nx' fl' e
theorem CE {α β:Type}(n:Nat)(X:α):br (leI (n:Int) 8) (some (Sum.inl (((leI (n:Int) 8),()),X):Sum ((Bool×Unit)×α) β)) (some (Sum.inl (((eqI (n:Int) 10),()),X)))=some (Sum.inl ((decide (n<=8\/n=10),()),X)):=by
 by_cases h:n<=8
 ·rw[fu (show(n:Int)<=8 by omega),aE,dT]
 ·rw[j9 (show ¬(n:Int)<=8 by omega),ak]
  by_cases h2:n=10
  ·rw[be (show(n:Int)=10 by omega),dT]
  ·rw[aq (show ¬(n:Int)=10 by omega),dF]
theorem Fl {α R:Type}(n:Nat)(X:α):
  (br (eqI (n:Int) 11) (some (Sum.inl (((eqI (n:Int) 11),()),X))) (bnd (br (eqI (n:Int) 12) (some (Sum.inl (((eqI (n:Int) 12),()),X))) (bnd (br (eqI (n:Int) 18) (some (Sum.inl (((eqI (n:Int) 18),()),X))) (some (Sum.inl (((eqI (n:Int) 19),()),X)))) (fun(x9:Sum ((Bool×Unit)×α) (Sum ((Bool×Unit)×α) (Sum ((Bool×Unit)×α) R)))=>aU x9 (fun x10=>some (Sum.inl x10)) some))) (fun(x11:Sum ((Bool×Unit)×α) (Sum ((Bool×Unit)×α) R))=>aU x11 (fun x12=>some (Sum.inl x12)) some)))=some (Sum.inl ((decide (n=11\/n=12\/n=18\/n=19),()),X)):=by
 by_cases h1:n=11
 ·rw[be (show(n:Int)=11 by omega),aE,dT]
 rw[aq (show ¬(n:Int)=11 by omega),ak]
 by_cases h2:n=12
 ·rw[be (show(n:Int)=12 by omega),aE,aa,ah,dT]
 rw[aq (show ¬(n:Int)=12 by omega),ak]
 by_cases h3:n=18
 ·rw[be (show(n:Int)=18 by omega),aE,aa,ah,aa,ah,dT]
 rw[aq (show ¬(n:Int)=18 by omega),ak,aa,ah,aa,ah]
 by_cases h4:n=19
 ·rw[be (show(n:Int)=19 by omega),dT]
 ·rw[aq (show ¬(n:Int)=19 by omega),dF]
theorem put_ne (n:Nat):br (aQ (eqI (n:Int) 8)) (some (aQ (eqI (n:Int) 10))) (some false)=some (decide (n≠8/\n≠10)):=by
 by_cases a8:n=8
 ·rw[be (show(n:Int)=8 by omega),bE,ak,dF]
 ·rw[aq (show ¬(n:Int)=8 by omega),bU,aE]
  by_cases a10:n=10
  ·rw[be (show(n:Int)=10 by omega),bE,dF]
  ·rw[aq (show ¬(n:Int)=10 by omega),bU,dT]
end
set_option linter.unusedSectionVars false
noncomputable section
theorem Ex {w v op a f:Int}{z:Nat}(h:w%64=v%64):jS op z a w f=jS op z a v f:=by
 unfold jS
 have:ze z w=ze z v:=by unfold ze;split<;>omega
 rw[this]
section
variable {g:List Int}{m:List Page}{c:Int}{l:List Acc}{k:Nat}(hs:(MS.mk g m c l).ok k)(hk:k+4<=1000){x:Ins}{n z:Nat}{rip fl nx:Int}
include hs hk
theorem Eb (hx:ExV x n)(hz:x.size=z)(hn:n<=8\/n=10):fQ g m c l x rip fl nx (((MS.mk g m c l).reck nx fl x n z).1,nx,((MS.mk g m c l).reck nx fl x n z).2):=by
 have hop:=hx.op
 have hz':cl (z:Int)=true:=by rw[<-hz];exact hx.szs.1 (by omega)
 have hdv:=hx.dv
 have hsv:=hx.sv
 have hss2:=(qL hx (by omega) hz hz').2
 have hsz:AC n z=z:=by unfold AC;rw[iN]
 have hks:=hx.kd.2.2.2.2.2.2.2.2.2.2 (by omega)
 rw[hz]at hdv
 rw[hss2,hsz]at hsv
 obtain⟨v1,c1,l1,e1,r1,ok1,I1⟩:=gtq hs (by omega) hz' hdv nx
 obtain⟨v2,c2,l2,e2,r2,ok2,I2⟩:=gtq ok1 (by omega) hz' hsv nx
 have hrk:pd n z v1 v2 fl=xS n z v1 v2 fl:=by unfold pd;rw[if_pos hn]
 have rI:=(Cr (op:=(n:Int)) (b:=v2) (f:=fl) hz' I1).1
 have hre:(MS.mk g m c l).reck nx fl x n z=(if n≠8/\n≠10 then(MS.mk g m c2 l2).wr nx x.dst z (xS n z v1 v2 fl).1 else MS.mk g m c2 l2,(xS n z v1 v2 fl).2):=by
  unfold MS.reck MS.rd0
  dsimp only
  rw[e1,if_pos (show x.src.kind≠0 by omega),hsz]
  dsimp only
  rw[e2]
  dsimp only
  rw[hrk]
 rw[hre]
 have hA:=DB (op:=(n:Int)) (f:=fl) hz' I1 I2
 generalize xS (n:Int) z v1 v2 fl=A at rI hA|-
 obtain⟨A,f'⟩:=A
 dsimp only at rI hA|-
 unfold c9 at r1 r2
 unfold fQ aZ
 dsimp only
 rw[hop,CE,aa,ah,decide_eq_true hn]
 dsimp only[dX,c9,cp7,d5,d11]
 rw[aE,hop,hz,r1,aa]
 dsimp only
 rw[r2,aa]
 dsimp only
 rw[hA,aa,put_ne,aa]
 dsimp only
 by_cases h:n≠8/\n≠10
 ·obtain⟨g',m',c',l',e3,r3,ok3⟩:=ptq ok2 (by omega) hz' hdv (hx.kd.1 (by omega)) nx rI
  unfold c9 at r3
  rw[decide_eq_true h,aE,if_pos h,e3,r3,aa]
  exact⟨⟨g',m',c',l'⟩,f',nx,rfl,.same rfl⟩
 ·rw[decide_eq_false h,ak,if_neg h]
  exact⟨⟨g,m,c2,l2⟩,f',nx,rfl,.same rfl⟩
theorem Ec (hx:ExV x n)(hz:x.size=z)(hI:I64 fl)(hf:bS fl=true)(hn:n=11\/n=12\/n=18\/n=19):fQ g m c l x rip fl nx (((MS.mk g m c l).reck nx fl x n z).1,nx,((MS.mk g m c l).reck nx fl x n z).2):=by
 have hop:=hx.op
 have hz':cl (z:Int)=true:=by rw[<-hz];exact hx.szs.1 (by omega)
 have hdv:=hx.dv
 have hks:=hx.kd.2.2.2.2.2.2.2.2.2.1 (by omega)
 rw[hz]at hdv
 obtain⟨v1,c1,l1,e1,r1,ok1,I1⟩:=gtq hs (by omega) hz' hdv nx
 have hrk:pd n z v1 0 fl=yY n z v1 fl:=by unfold pd;rw[iN,iP]
 have hre:(MS.mk g m c l).reck nx fl x n z=((MS.mk g m c1 l1).wr nx x.dst z (yY n z v1 fl).1,(yY n z v1 fl).2):=by
  unfold MS.reck MS.rd0
  dsimp only
  rw[e1,if_neg (show ¬x.src.kind≠0 by omega)]
  dsimp only
  rw[hrk,if_pos (show n≠8/\n≠10 by omega)]
 rw[hre]
 have hA:=DC (op:=(n:Int)) (f:=fl) hz' I1
 have rI:=(D7 (op:=(n:Int)) (a:=v1) hz' hI hf).1
 generalize yY (n:Int) z v1 fl=A at rI hA|-
 obtain⟨A,f'⟩:=A
 dsimp only at rI hA|-
 obtain⟨g',m',c',l',e3,r3,ok3⟩:=ptq ok1 (by omega) hz' hdv (hx.kd.1 (by omega)) nx rI
 unfold c9 at r1 r3
 unfold fQ aZ
 dsimp only
 rw[hop,CE,aa,ah,dF]
 dsimp only
 rw[ak,show(dX x ()).1=(n:Int)from hop,Fl,aa,ah,decide_eq_true hn]
 dsimp only[dX,c9,cp7,d5,d11]
 rw[aE,hop,hz,r1,aa]
 dsimp only
 rw[hA,aa]
 dsimp only
 rw[r3,aa,e3]
 exact⟨⟨g',m',c',l'⟩,f',nx,rfl,.same rfl⟩
theorem y6 (hx:ExV x n)(hz:x.size=z)(hI:I64 fl)(hf:bS fl=true)(hn:20<=n/\n<=24):fQ g m c l x rip fl nx (((MS.mk g m c l).reck nx fl x n z).1,nx,((MS.mk g m c l).reck nx fl x n z).2):=by
 have hop:=hx.op
 have hz':cl (z:Int)=true:=by rw[<-hz];exact hx.szs.1 (by omega)
 have hdv:=hx.dv
 have hsv:=hx.sv
 have hss2:=(qL hx (by omega) hz hz').2
 have hsz:AC n z=8:=by unfold AC;rw[iP]
 have hks:=hx.kd.2.2.2.2.2.2.2.2.1 (by omega)
 rw[hz]at hdv
 rw[hss2,hsz]at hsv
 have hsv1:OpV x.src ((1:Nat):Int):=by
  refine⟨fun h2 h1=>?_,hsv.b,hsv.d,hsv.i⟩
  have:=hsv.r h2 h1
  unfold r8 at this|-
  omega
 obtain⟨v1,c1,l1,e1,r1,ok1,I1⟩:=gtq hs (by omega) hz' hdv nx
 have hw:∃w v,(∀rip fl,ax ((c9 x.src (),1,()),(g,rip,fl,m,nx,c,()),l,())=some (w,(g,rip,fl,m,nx,c,()),l,()))/\(MS.mk g m c1 l1).rd nx x.src 8=(v,MS.mk g m c1 l1)/\w%64=bV v 1%64:=by
  have h5:=fun rip fl=>get_r hs (by omega) (n:=1) rfl hsv1 rip fl nx
  unfold MS.rd at h5|-
  rcases hks with h1|h3
  ·rw[if_pos h1]
   have hr:=hsv.r (by omega) h1
   unfold r8 at hr
   refine⟨lj g x.src.reg 1,lj g x.src.reg 8,fun rip fl=>?_,rfl,?_⟩
   ·have:=h5 rip fl
    rw[if_pos h1]at this
    exact this
   ·unfold lj
    rw[iN,iN]
    have e8:bV (rg g x.src.reg) 8=rg g x.src.reg:=if_pos rfl
    rw[e8]
  ·rw[iN,iN]
   refine⟨x.src.imm,x.src.imm,fun rip fl=>?_,rfl,?_⟩
   ·have:=h5 rip fl
    rw[iN,iN]at this
    exact this
   ·unfold bV
    rw[iD,show(2:Int)^(8*1)=256 from rfl]
    omega
 obtain⟨w,v2,r2,e2,hwv⟩:=hw
 have hrk:pd n z v1 v2 fl=jS n z v1 w fl:=by
  unfold pd
  rw[iN,iN,iP]
  exact(Ex hwv).symm
 have hre:(MS.mk g m c l).reck nx fl x n z=((MS.mk g m c1 l1).wr nx x.dst z (jS n z v1 w fl).1,(jS n z v1 w fl).2):=by
  unfold MS.reck MS.rd0
  dsimp only
  rw[e1,if_pos (show x.src.kind≠0 by omega),hsz]
  dsimp only
  rw[e2]
  dsimp only
  rw[hrk,if_pos (show n≠8/\n≠10 by omega)]
 rw[hre]
 have hA:=yH (op:=(n:Int)) (k:=w) (f:=fl) (by omega) hz' I1
 have rI:=(xr (op:=(n:Int)) (k:=w) hz' I1 hI hf).1
 generalize jS (n:Int) z v1 w fl=A at rI hA|-
 obtain⟨A,f'⟩:=A
 dsimp only at rI hA|-
 obtain⟨g',m',c',l',e3,r3,ok3⟩:=ptq ok1 (by omega) hz' hdv (hx.kd.1 (by omega)) nx rI
 unfold c9 at r1 r2 r3
 unfold fQ aZ
 dsimp only
 rw[hop,CE,aa,ah,dF]
 dsimp only
 rw[ak,show(dX x ()).1=(n:Int)from hop,Fl,aa,ah,dF]
 dsimp only
 rw[ak,show(dX x ()).1=(n:Int)from hop,ct,bD,aa,dT]
 dsimp only[dX,c9,cp7,d5,d11]
 rw[aE,hz,r2,aa]
 dsimp only
 rw[r1,aa]
 dsimp only
 rw[hA,aa]
 dsimp only
 rw[r3,aa,e3]
 exact⟨⟨g',m',c',l'⟩,f',nx,rfl,.same rfl⟩
theorem By (hx:ExV x 17)(hz:x.size=z)(hI:I64 fl)(hf:bS fl=true):fQ g m c l x rip fl nx (((MS.mk g m c l).reck nx fl x 17 z).1,nx,((MS.mk g m c l).reck nx fl x 17 z).2):=by
 have hop:=hx.op
 have hz':cl (z:Int)=true:=by rw[<-hz];exact hx.szs.1 (by omega)
 have hdv:=hx.dv
 have hsv:=hx.sv
 have hss2:=(qL hx (by omega) hz hz').2
 have hsz:AC 17 z=z:=by unfold AC;rw[iN]
 have hks:=hx.kd.2.2.2.2.2.2.2.2.2.2 (by omega)
 rw[hz]at hdv
 rw[hss2,hsz]at hsv
 obtain⟨v1,c1,l1,e1,r1,ok1,I1⟩:=gtq hs (by omega) hz' hdv nx
 obtain⟨v2,c2,l2,e2,r2,ok2,I2⟩:=gtq ok1 (by omega) hz' hsv nx
 have hrk:pd 17 z v1 v2 fl=((rE (17:Nat) z v1 v2 fl).1,(rE (17:Nat) z v1 v2 fl).2.2):=by
  unfold pd;rw[iN,iN,iN]
 have hre:(MS.mk g m c l).reck nx fl x 17 z=((MS.mk g m c2 l2).wr nx x.dst z (rE (17:Nat) z v1 v2 fl).1,(rE (17:Nat) z v1 v2 fl).2.2):=by
  unfold MS.reck MS.rd0
  dsimp only
  rw[e1,if_pos (show x.src.kind≠0 by omega),hsz]
  dsimp only
  rw[e2]
  dsimp only
  rw[hrk,if_pos (show(17:Nat)≠8/\(17:Nat)≠10 by omega)]
 rw[hre]
 have hA:=nJ (op:=((17:Nat):Int)) (f:=fl) hz' I1 I2
 have rI:=(uV (op:=((17:Nat):Int)) (n:=z) (a:=v1) (b:=v2) hI hf).1
 generalize rE ((17:Nat):Int) z v1 v2 fl=A at rI hA|-
 obtain⟨A,A2,f'⟩:=A
 dsimp only at rI hA|-
 obtain⟨g',m',c',l',e3,r3,ok3⟩:=ptq ok2 (by omega) hz' hdv (hx.kd.1 (by omega)) nx rI
 unfold c9 at r1 r2 r3
 unfold fQ aZ
 dsimp only
 rw[hop,CE,aa,ah,dF]
 dsimp only
 rw[ak,show(dX x ()).1=((17:Nat):Int)from hop,Fl,aa,ah,dF]
 dsimp only
 rw[ak,show(dX x ()).1=((17:Nat):Int)from hop,ct,bD,aa,dF]
 dsimp only
 rw[ak,be (show((17:Nat):Int)=17 by omega),aE]
 dsimp only[dX,c9,cp7,d5,d11]
 rw[hz,r1,aa]
 dsimp only
 rw[r2,aa]
 dsimp only
 rw[hA,aa]
 dsimp only
 rw[r3,aa,e3]
 exact⟨⟨g',m',c',l'⟩,f',nx,rfl,.same rfl⟩
end
end
set_option linter.unusedSectionVars false
noncomputable section
theorem upper_r (z:Nat):gp (((z:Int),()),())=some (upZ z,()):=by
 unfold gp upZ
 dsimp only
 by_cases h:z=1
 ·rw[be,aE,if_pos h]
 ·rw[aq,ak,if_neg h]
theorem reg0 (z:Nat):r8 0 z:=by unfold r8;omega
theorem Dn (x:Ins):yA (dX x ())=x:=rfl
section
variable {g:List Int}{m:List Page}{c:Int}{l:List Acc}{k:Nat}(hs:(MS.mk g m c l).ok k)(hk:k+4<=1000){x:Ins}{n z:Nat}{rip fl nx:Int}
include hs hk
theorem plain_9 (hx:ExV x 9)(hz:x.size=z):fQ g m c l x rip fl nx ((MS.mk g m c l).move fl nx x 9 z,nx,fl):=by
 have hop:=hx.op
 have hz':cl (z:Int)=true:=by rw[<-hz];exact hx.szs.1 (by omega)
 have hdv:=hx.dv
 have hsv:=hx.sv
 rw[hz]at hdv
 rw[show sSz x 9=x.size from by unfold sSz;rw[iD,hx.fr.2 (by decide),iD],hz]at hsv
 obtain⟨v1,c1,l1,e1,r1,ok1,I1⟩:=gtq hs (by omega) hz' hsv nx
 obtain⟨g',m',c',l',e2,r2,ok2⟩:=ptq ok1 (by omega) hz' hdv (hx.kd.1 (by omega)) nx I1
 unfold c9 at r1 r2
 have hre:(MS.mk g m c l).move fl nx x 9 z=⟨g',m',c',l'⟩:=by
  unfold MS.move
  rw[if_pos rfl,e1]
  exact e2
 rw[hre]
 unfold fQ aZ
 dsimp only
 rw[hop,CE,aa,ah,dF]
 dsimp only
 rw[ak,show(dX x ()).1=((9:Nat):Int)from hop,Fl,aa,ah,dF]
 dsimp only
 rw[ak,show(dX x ()).1=((9:Nat):Int)from hop,ct,bD,aa,dF]
 dsimp only
 rw[ak,aq,ak,be,aE]
 dsimp only[dX,c9,cp7,d5,d11]
 rw[hz,r1,aa]
 dsimp only
 rw[r2,aa]
 exact⟨⟨g',m',c',l'⟩,fl,nx,rfl,.same rfl⟩
theorem Hb (hx:ExV x 28)(hz:x.size=z):fQ g m c l x rip fl nx ((MS.mk g m c l).move fl nx x 28 z,nx,fl):=by
 have hop:=hx.op
 have hz':cl (z:Int)=true:=by rw[<-hz];exact hx.szs.1 (by omega)
 have hdv:=hx.dv
 have hsv:=hx.sv
 rw[hz]at hdv
 rw[show sSz x 28=x.size from by unfold sSz;rw[iD,hx.fr.2 (by decide),iD],hz]at hsv
 have hsk:=hx.kd.2.1 rfl
 obtain⟨v1,c1,l1,e1,r1,ok1,I1⟩:=gtq hs (by omega) hz' hdv nx
 obtain⟨v2,c2,l2,e2,r2,ok2,I2⟩:=gtq ok1 (by omega) hz' hsv nx
 obtain⟨g3,m3,c3,l3,e3,r3,ok3⟩:=ptq ok2 (by omega) hz' hdv (hx.kd.1 (by omega)) nx I2
 obtain⟨g4,m4,c4,l4,e4,r4,ok4⟩:=ptq ok3 (by omega) hz' hsv (.inl hsk) nx I1
 unfold c9 at r1 r2 r3 r4
 have hre:(MS.mk g m c l).move fl nx x 28 z=⟨g4,m4,c4,l4⟩:=by
  unfold MS.move
  dsimp only
  rw[iD,if_pos rfl,e1]
  dsimp only
  rw[e2]
  dsimp only
  rw[e3]
  exact e4
 rw[hre]
 unfold fQ aZ
 dsimp only
 rw[hop,CE,aa,ah,dF]
 dsimp only
 rw[ak,show(dX x ()).1=((28:Nat):Int)from hop,Fl,aa,ah,dF]
 dsimp only
 rw[ak,show(dX x ()).1=((28:Nat):Int)from hop,ct,bD,aa,dF]
 dsimp only
 rw[ak,aq,ak,aq,ak,be,aE]
 dsimp only[dX,c9,cp7,d5,d11]
 rw[hz,r1,aa]
 dsimp only
 rw[r2,aa]
 dsimp only
 rw[r3,aa]
 dsimp only
 rw[r4,aa]
 exact⟨⟨g4,m4,c4,l4⟩,fl,nx,rfl,.same rfl⟩
theorem G8 (hx:ExV x 25)(hz:x.size=z):fQ g m c l x rip fl nx ((MS.mk g m c l).move fl nx x 25 z,nx,fl):=by
 have hop:=hx.op
 have hz':cl (z:Int)=true:=by rw[<-hz];exact hx.szs.1 (by omega)
 have hdv:=hx.dv
 have hsv:=hx.sv
 rw[hz]at hdv
 have hk2:=hx.kd.2.2.1 rfl
 have hA:=l6 (g:=g) (nx:=nx) hsv
 obtain⟨g',m',c',l',e2,r2,ok2⟩:=ptq hs (by omega) hz' hdv (hx.kd.1 (by omega)) nx hA
 have hadr:=mb (g:=g) (rip:=rip) (fl:=fl) (nx:=nx) (hsv.b hk2.2)
 unfold c9 at r2 hadr
 have hre:(MS.mk g m c l).move fl nx x 25 z=⟨g',m',c',l'⟩:=by
  unfold MS.move
  rw[iD,iD,if_pos rfl]
  exact e2
 rw[hre]
 unfold fQ aZ
 dsimp only
 rw[hop,CE,aa,ah,dF]
 dsimp only
 rw[ak,show(dX x ()).1=((25:Nat):Int)from hop,Fl,aa,ah,dF]
 dsimp only
 rw[ak,show(dX x ()).1=((25:Nat):Int)from hop,ct,bD,aa,dF]
 dsimp only
 rw[ak,aq,ak,aq,ak,aq,ak,be,aE]
 dsimp only[dX,c9,cp7,d5,d11]
 rw[hz,hadr,aa]
 rw[r2,aa]
 exact⟨⟨g',m',c',l'⟩,fl,nx,rfl,.same rfl⟩
theorem G9 (hx:ExV x 26)(hz:x.size=z):fQ g m c l x rip fl nx ((MS.mk g m c l).move fl nx x 26 z,nx,fl):=by
 have hop:=hx.op
 have hz':cl (z:Int)=true:=by rw[<-hz];exact hx.szs.1 (by omega)
 have hdv:=hx.dv
 have hsv:=hx.sv
 rw[hz]at hdv
 have hfz:=hx.fr.1 (by omega)
 obtain⟨f,hf,hf2⟩:=qA hfz
 rw[show sSz x 26=x.frm from by unfold sSz;rw[iD,if_pos (by have:=dL hf2;omega)],hf]at hsv
 obtain⟨v1,c1,l1,e1,r1,ok1,I1⟩:=gtq hs (by omega) hf2 hsv nx
 have hft:x.frm.toNat=f:=by omega
 obtain⟨g',m',c',l',e2,r2,ok2⟩:=ptq ok1 (by omega) hz' hdv (hx.kd.1 (by omega)) nx I1
 unfold c9 at r1 r2
 have hre:(MS.mk g m c l).move fl nx x 26 z=⟨g',m',c',l'⟩:=by
  unfold MS.move
  rw[iD,iD,iD,if_pos rfl,hft,e1]
  exact e2
 rw[hre]
 unfold fQ aZ
 dsimp only
 rw[hop,CE,aa,ah,dF]
 dsimp only
 rw[ak,show(dX x ()).1=((26:Nat):Int)from hop,Fl,aa,ah,dF]
 dsimp only
 rw[ak,show(dX x ()).1=((26:Nat):Int)from hop,ct,bD,aa,dF]
 dsimp only
 rw[ak,aq,ak,aq,ak,aq,ak,aq,ak,be,aE]
 dsimp only[dX,c9,cp7,d5,d11]
 rw[hz,hf,r1,aa]
 dsimp only
 rw[r2,aa]
 exact⟨⟨g',m',c',l'⟩,fl,nx,rfl,.same rfl⟩
theorem Ha (hx:ExV x 27)(hz:x.size=z):fQ g m c l x rip fl nx ((MS.mk g m c l).move fl nx x 27 z,nx,fl):=by
 have hop:=hx.op
 have hz':cl (z:Int)=true:=by rw[<-hz];exact hx.szs.1 (by omega)
 have hdv:=hx.dv
 have hsv:=hx.sv
 rw[hz]at hdv
 have hfz:=hx.fr.1 (by omega)
 obtain⟨f,hf,hf2⟩:=qA hfz
 rw[show sSz x 27=x.frm from by unfold sSz;rw[iD,if_pos (by have:=dL hf2;omega)],hf]at hsv
 obtain⟨v1,c1,l1,e1,r1,ok1,I1⟩:=gtq hs (by omega) hf2 hsv nx
 have hft:x.frm.toNat=f:=by omega
 have hf18:=dL hf2
 have hsg:=gJ v1 (f:Int) (by omega) (by omega)
 rw[show(8*(f:Int)-1).toNat=8*f-1 by omega]at hsg
 have hsI:I64 (sx (8*f-1) v1):=iF _ (by omega) v1
 obtain⟨g',m',c',l',e2,r2,ok2⟩:=ptq ok1 (by omega) hz' hdv (hx.kd.1 (by omega)) nx hsI
 unfold c9 at r1 r2
 have hre:(MS.mk g m c l).move fl nx x 27 z=⟨g',m',c',l'⟩:=by
  unfold MS.move
  rw[iD,iD,iD,iD,if_pos rfl,hft,e1]
  exact e2
 rw[hre]
 unfold fQ aZ
 dsimp only
 rw[hop,CE,aa,ah,dF]
 dsimp only
 rw[ak,show(dX x ()).1=((27:Nat):Int)from hop,Fl,aa,ah,dF]
 dsimp only
 rw[ak,show(dX x ()).1=((27:Nat):Int)from hop,ct,bD,aa,dF]
 dsimp only
 rw[ak,aq,ak,aq,ak,aq,ak,aq,ak,aq,ak,be,aE]
 dsimp only[dX,c9,cp7,d5,d11]
 rw[hz,hf,r1,aa]
 dsimp only
 rw[hsg,aa]
 rw[r2,aa]
 exact⟨⟨g',m',c',l'⟩,fl,nx,rfl,.same rfl⟩
theorem wide_r (hx:ExV x n)(hz:x.size=z)(hI:I64 fl)(hf:bS fl=true)(hn:13<=n/\n<=16):
  ∃g' c' l' fl',eh ((x,()),(g,rip,fl,m,nx,c,()),l,())=some ((),(g',rip,fl',m,nx,c',()),l',())/\RelR ⟨g',m,c',l'⟩ nx fl' (((MS.mk g m c l).wide fl nx x n z).1,nx,((MS.mk g m c l).wide fl nx x n z).2):=by
 have hop:=hx.op
 have hz':cl (z:Int)=true:=by rw[<-hz];exact hx.szs.1 (by omega)
 have hsv:=hx.sv
 rw[show sSz x n=x.size from by unfold sSz;rw[iN,hx.fr.2 (by omega),iD],hz]at hsv
 obtain⟨v1,c1,l1,e1,r1,ok1,I1⟩:=gtq hs (by omega) hz' hsv nx
 have hgI:∀r,I64 (lj g r z):=fun r=>uC (g:=g) hs.g hz'
 unfold eh MS.wide RelR
 dsimp only
 rw[e1,hop,hz,r1,aa]
 dsimp only[d5]
 by_cases hc1:c1=0
 rotate_left
 ·rw[aq hc1,bU,aE]
  refine⟨g,c1,l1,fl,rfl,?_⟩
  by_cases hm:n=13\/n=14
  ·rw[if_pos hm]
   exact⟨rfl,rfl,fun h=>absurd h hc1⟩
  ·rw[if_neg hm]
   dsimp only
   rw[if_neg (fun h=>hc1 h.2)]
   exact⟨rfl,rfl,fun h=>absurd h hc1⟩
 subst hc1
 have hg0:=rB (g:=g) (rip:=rip) (fl:=fl) hs.g hz' (reg0 z)
 have hgu:=rB (g:=g) (rip:=rip) (fl:=fl) hs.g hz' (pM z)
 rw[be rfl,bE,ak,hg0,aa,upper_r,aa]
 have hb:br (eqI (n:Int) 13) (some true) (some (eqI (n:Int) 14))=some (decide (n=13\/n=14)):=by
  by_cases a:n=13
  ·rw[be,aE,dT]
  ·rw[aq,ak]
   by_cases b:n=14
   ·rw[be,dT]
   ·rw[aq,dF]
 rw[hb,aa]
 by_cases hm:n=13\/n=14
 ·rw[decide_eq_true hm,aE,if_pos hm]
  have hA:=nJ (op:=(n:Int)) (a:=lj g 0 z) (b:=v1) (f:=fl) hz' (hgI 0) I1
  obtain⟨o1,o2,o3,o4⟩:=uV (op:=n) (n:=z) (a:=lj g 0 z) (b:=v1) hI hf
  generalize rE (n:Int) z (lj g 0 z) v1 fl=A at hA o1 o2 o3 o4|-
  obtain⟨lo,hi,f'⟩:=A
  dsimp only at hA o1 o2 o3 o4|-
  have s1:=jN (g:=g) (rip:=rip) (fl:=f') hs.g o1 hz' (reg0 z)
  have s2:=jN (g:=qd g 0 z lo) (rip:=rip) (fl:=f') (lF hs.g o1 hz') o2 hz' (pM z)
  rw[hA,aa,aa,ah]
  dsimp only[dX]
  rw[hz,s1,aa]
  dsimp only
  rw[s2,aa]
  exact⟨_,0,l1,f',rfl,rfl,rfl,fun _=>⟨rfl,rfl,rfl⟩⟩
 ·rw[decide_eq_false hm,ak,if_neg hm]
  obtain⟨o1,o2⟩:=zK (op:=n) (n:=z) (hi:=lj g (upZ z) z) (lo:=lj g 0 z) (d:=v1)
  obtain⟨q,r,hd,hqr⟩:=wF (op:=(n:Int)) (n:=z) (hi:=lj g (upZ z) z) (lo:=lj g 0 z) (d:=v1) hz' (hgI _) (hgI _) I1
  generalize uk (n:Int) z (lj g (upZ z) z) (lj g 0 z) v1=A at hd hqr o1 o2|-
  obtain⟨q',r',ok⟩:=A
  dsimp only at hd hqr o1 o2|-
  rw[hgu,aa]
  dsimp only
  rw[hd,aa]
  dsimp only
  cases ok with
  |false=>
   rw[bU,aE,aa,qg]
   exact⟨g,16,l1,fl,rfl,rfl,rfl,fun h=>absurd h (by rw[if_pos ⟨rfl,rfl⟩];decide)⟩
  |true=>
   obtain⟨rfl,rfl⟩:=hqr rfl
   have s1:=jN (g:=g) (rip:=rip) (fl:=fl) hs.g o1 hz' (reg0 z)
   have s2:=jN (g:=qd g 0 z q) (rip:=rip) (fl:=fl) (lF hs.g o1 hz') o2 hz' (pM z)
   rw[bE,ak,aa,ah]
   dsimp only[dX]
   rw[hz,s1,aa]
   dsimp only
   rw[s2,aa]
   exact⟨_,0,l1,fl,rfl,rfl,rfl,fun _=>⟨rfl,rfl,rfl⟩⟩
theorem BA (hx:ExV x n)(hz:x.size=z)(hI:I64 fl)(hf:bS fl=true)(hn:13<=n/\n<=16):fQ g m c l x rip fl nx (((MS.mk g m c l).wide fl nx x n z).1,nx,((MS.mk g m c l).wide fl nx x n z).2):=by
 have hop:=hx.op
 obtain⟨g',c',l',fl',hr,hR⟩:=wide_r hs hk hx hz hI hf hn (rip:=rip) (nx:=nx)
 generalize (((MS.mk g m c l).wide fl nx x n z).1,nx,((MS.mk g m c l).wide fl nx x n z).2)=e at hR|-
 unfold fQ aZ
 dsimp only
 rw[hop,CE,aa,ah,dF]
 dsimp only
 rw[ak,show(dX x ()).1=(n:Int)from hop,Fl,aa,ah,dF]
 dsimp only
 rw[ak,show(dX x ()).1=(n:Int)from hop,ct,bD,aa,dF]
 dsimp only
 rw[ak,aq,ak,aq,ak,aq,ak,aq,ak,aq,ak,aq,ak,bD,aa]
 dsimp only
 rw[Dn,dT,aE,hr,aa]
 exact⟨⟨g',m,c',l'⟩,fl',nx,rfl,hR⟩
theorem Bz (hx:ExV x n)(hn:29<=n){e:MS×Int×Int}{S:MS}{fl' nx':Int}(hr:aG ((x,()),(g,rip,fl,m,nx,c,()),l,())=some ((),S.r rip fl' nx'))(hR:RelR S nx' fl' e):fQ g m c l x rip fl nx e:=by
 have hop:=hx.op
 unfold fQ aZ
 dsimp only
 rw[hop,CE,aa,ah,dF]
 dsimp only
 rw[ak,show(dX x ()).1=(n:Int)from hop,Fl,aa,ah,dF]
 dsimp only
 rw[ak,show(dX x ()).1=(n:Int)from hop,ct,bD,aa,dF]
 dsimp only
 rw[ak,aq,ak,aq,ak,aq,ak,aq,ak,aq,ak,aq,ak,bD,aa]
 dsimp only
 rw[Dn,dF,ak,hr,aa]
 exact⟨S,fl',nx',rfl,hR⟩
end
end
set_option linter.unusedSectionVars false
noncomputable section
theorem Et (g:List Int)(v w:Int):setA (setA g 7 v) 6 w=setA (setA g 6 w) 7 v:=by
 have hp:∀i a,dW 16 (az .i) (Go.Den.G.setA g i a)=Go.Den.G.setA g i a:=fun i a=>by
  unfold Go.Den.G.setA cF
  unfold dW
  rw[List.length_set,List.length_append,List.length_replicate,show 16-(g.length+(16-g.length))=0 by omega]
  simp
 have h1:setA (setA g 7 v) 6 w=cF (setA g 7 v) 6 w:=by rw[Go.Den.G.setA,hp]
 have h2:setA (setA g 6 w) 7 v=cF (setA g 6 w) 7 v:=by rw[Go.Den.G.setA,hp]
 rw[h1,h2]
 unfold Go.Den.G.setA cF
 exact(List.set_comm w v (by decide)).symm
theorem xm (g:List Int)(v:Int):rg (setA g 6 v) 7=rg g 7/\rg (setA g 7 v) 6=rg g 6:=by
 have hp:∀j:Nat,(dW 16 (az .i) g).getD j (az .i)=g.getD j (az .i):=fun j=>by
  unfold dW
  rw[List.getD_eq_getElem?_getD,List.getD_eq_getElem?_getD,List.getElem?_append]
  split
  ·rfl
  ·rw[List.getElem?_replicate,List.getElem?_eq_none (by omega)]
   split<;>rfl
 unfold rg aR Go.Den.G.setA cF
 constructor
 ·rw[List.getD_eq_getElem?_getD,List.getElem?_set_ne (by decide),<-List.getD_eq_getElem?_getD,hp]
 ·rw[List.getD_eq_getElem?_getD,List.getElem?_set_ne (by decide),<-List.getD_eq_getElem?_getD,hp]
section
variable {g:List Int}{m:List Page}{c:Int}{l:List Acc}{k:Nat}(hs:(MS.mk g m c l).ok k)(hk:k+4<=1000){x:Ins}{z:Nat}{rip fl nx:Int}
include hs hk
def m5 (g:List Int)(m:List Page)(c:Int)(l:List Acc)(x:Ins)(rip fl nx:Int)(e:MS×Int×Int):Prop:=
 ∃S fl' nx',aG ((x,()),(g,rip,fl,m,nx,c,()),l,())=some ((),S.r rip fl' nx')/\RelR S nx' fl' e
theorem GU (hx:ExV x 35):m5 g m c l x rip fl nx ((MS.mk g m c l).move fl nx x 35 z,nx,fl):=by
 have hop:=hx.op
 have hdv:=hx.dv
 rw[hx.szs.2.2.2.1 rfl]at hdv
 obtain⟨g',m',c',l',e2,r2,ok2⟩:=ptq hs (by omega) (n:=1) rfl hdv (hx.kd.1 (by omega)) nx (show I64 (if jl x.cond fl=true then 1 else 0)by split<;>(unfold I64;decide))
 have r2':∀rip fl',aL ((c9 x.dst (),1,(if jl x.cond fl=true then 1 else 0),()),(g,rip,fl',m,nx,c,()),l,())=_:=r2
 have hre:(MS.mk g m c l).move fl nx x 35 z=⟨g',m',c',l'⟩:=by
  unfold MS.move
  rw[iD,iD,iD,iD,iD,if_pos rfl]
  exact e2
 rw[hre]
 unfold m5
 unfold aG
 dsimp only
 rw[hop,be,aE]
 rw[n9 hx.c0 hx.c1,aa,wE,aa,r2',aa]
 exact⟨⟨g',m',c',l'⟩,fl,nx,rfl,.same rfl⟩
theorem GV (hx:ExV x 36)(hz:x.size=z):m5 g m c l x rip fl nx ((MS.mk g m c l).move fl nx x 36 z,nx,fl):=by
 have hop:=hx.op
 have hz':cl (z:Int)=true:=by rw[<-hz];exact hx.szs.1 (by omega)
 have hdv:=hx.dv
 have hsv:=hx.sv
 rw[hz]at hdv
 rw[show sSz x 36=x.size from by unfold sSz;rw[iD,hx.fr.2 (by decide),iD],hz]at hsv
 obtain⟨v1,c1,l1,e1,r1,ok1,I1⟩:=gtq hs (by omega) hz' hsv nx
 obtain⟨v2,c2,l2,e2,r2,ok2,I2⟩:=gtq ok1 (by omega) hz' hdv nx
 unfold m5
 unfold aG
 dsimp only
 rw[hop,aq,ak,be,aE]
 rw[hz,r1,aa,n9 hx.c0 hx.c1,aa]
 dsimp only[d5]
 by_cases hh:jl x.cond fl=true
 ·obtain⟨g',m',c',l',e3,r3,ok3⟩:=ptq ok1 (by omega) hz' hdv (hx.kd.1 (by omega)) nx I1
  unfold c9 at r3
  have hre:(MS.mk g m c l).move fl nx x 36 z=⟨g',m',c',l'⟩:=by
   unfold MS.move
   dsimp only
   rw[iD,iD,iD,iD,iD,iD,if_pos rfl,e1,if_pos hh]
   exact e3
  rw[hre,hh,bE,ak,aa,ah]
  dsimp only[dX,c9,cp7,d5]
  rw[hz,r3,aa]
  exact⟨⟨g',m',c',l'⟩,fl,nx,rfl,.same rfl⟩
 ·obtain⟨g',m',c',l',e3,r3,ok3⟩:=ptq ok2 (by omega) hz' hdv (hx.kd.1 (by omega)) nx I2
  unfold c9 at r3
  have hre:(MS.mk g m c l).move fl nx x 36 z=⟨g',m',c',l'⟩:=by
   unfold MS.move
   dsimp only
   rw[iD,iD,iD,iD,iD,iD,if_pos rfl,e1,if_neg hh]
   dsimp only
   rw[e2]
   exact e3
  rw[hre,Bool.eq_false_iff.2 hh,bU,aE,r2,aa,aa,ah]
  dsimp only[dX,c9,cp7,d5]
  rw[hz,r3,aa]
  exact⟨⟨g',m',c',l'⟩,fl,nx,rfl,.same rfl⟩
theorem GY (hx:ExV x 39)(hz:x.size=z):m5 g m c l x rip fl nx ((MS.mk g m c l).move fl nx x 39 z,nx,fl):=by
 have hop:=hx.op
 have h39:=hx.szs.2.1 rfl
 rw[hz]at h39
 have hz':cl (z:Int)=true:=by rcases h39 with h|h|h<;>rw[h]<;>rfl
 have hz2:cl ((z/2:Nat):Int)=true:=by rcases h39 with h|h|h<;>rw[show z/2=_ from by rw[show z=_ from Int.ofNat_inj.1 h]]<;>rfl
 have h18:=dL hz2
 have hq:kE .i64 (z:Int) 2=((z/2:Nat):Int):=by rw[fS (by omega) (by decide) (by omega)];omega
 have hsg:=gJ (rg g 0) ((z/2:Nat):Int) (by omega) (by omega)
 rw[show(8*((z/2:Nat):Int)-1).toNat=8*(z/2)-1 by omega]at hsg
 have hI:I64 (sx (8*(z/2)-1) (rg g 0)):=iF _ (by omega) _
 have hst:=jN (g:=g) (rip:=rip) (fl:=fl) hs.g hI hz' (reg0 z)
 have hre:(MS.mk g m c l).move fl nx x 39 z=⟨qd g 0 z (sx (8*(z/2)-1) (rg g 0)),m,c,l⟩:=by
  unfold MS.move
  rw[iD,iD,iD,iD,iD,iD,iD,if_pos rfl,show lj (MS.mk g m c l).g 0 (z/2)=bV (rg g 0) (z/2)from iD,ET hz2]
 rw[hre]
 unfold m5
 unfold aG
 dsimp only
 rw[hop,aq,ak,aq,ak,be,aE]
 rw[hz,hq]
 have hsg':aJ (((aR g 0 (az .i)),((z/2:Nat):Int),()),())=_:=hsg
 rw[hsg',aa,hst,aa]
 exact⟨_,fl,nx,rfl,.same rfl⟩
theorem GZ (hx:ExV x 40)(hz:x.size=z):m5 g m c l x rip fl nx ((MS.mk g m c l).move fl nx x 40 z,nx,fl):=by
 have hop:=hx.op
 have hz':cl (z:Int)=true:=by rw[<-hz];exact hx.szs.1 (by omega)
 have h18:=dL hz'
 have hsg:=gJ (rg g 0) (z:Int) (by omega) (by omega)
 rw[show(8*(z:Int)-1).toNat=8*z-1 by omega]at hsg
 have hI0:I64 (sx (8*z-1) (rg g 0)):=iF _ (by omega) _
 have hI:I64 (cu .i64 (sx (8*z-1) (rg g 0)) 63):=by
  rw[Ez hI0]
  split<;>(unfold I64;decide)
 have hst:=jN (g:=g) (r:=2) (rip:=rip) (fl:=fl) hs.g hI hz' (by unfold r8;omega)
 have hre:(MS.mk g m c l).move fl nx x 40 z=⟨qd g 2 z (cu .i64 (sx (8*z-1) (rg g 0)) 63),m,c,l⟩:=by
  unfold MS.move
  rw[iD,iD,iD,iD,iD,iD,iD,iD,if_pos rfl,show lj (MS.mk g m c l).g 0 z=bV (rg g 0) z from iD,ET hz']
 rw[hre]
 unfold m5
 unfold aG
 dsimp only
 rw[hop,aq,ak,aq,ak,aq,ak,be,aE]
 rw[hz]
 have hsg':aJ (((aR g 0 (az .i)),(z:Int),()),())=_:=hsg
 rw[hsg',aa,hst,aa]
 exact⟨_,fl,nx,rfl,.same rfl⟩
theorem G0 (hx:ExV x 41):m5 g m c l x rip fl nx (((MS.mk g m c l).flow nx fl nx x 41).1,((MS.mk g m c l).flow nx fl nx x 41).2,fl):=by
 have hop:=hx.op
 obtain⟨m',c',l',e1,r1,ok1⟩:=stq hs (by omega) (hs.g 7) (n:=1) rfl (hs.g 0)
 have r1':bg ((aR g 7 (az .i),1,aR g 0 (az .i),()),(g,rip,fl,m,nx,c,()),l,())=_:=r1 rip fl nx
 have hre:(MS.mk g m c l).flow nx fl nx x 41=(⟨setA g 7 (aB .i64 (rg g 7) 1),m',c',l'⟩,nx):=by
  unfold MS.flow
  rw[iD,iD,iD,iD,iD,iD,if_pos rfl]
  dsimp only
  rw[e1]
 rw[hre]
 unfold m5
 unfold aG
 dsimp only
 rw[hop,aq,ak,aq,ak,aq,ak,aq,ak,be,aE]
 rw[r1',aa,ec,aa]
 exact⟨_,fl,nx,rfl,.same rfl⟩
theorem G1 (hx:ExV x 42):m5 g m c l x rip fl nx (((MS.mk g m c l).flow nx fl nx x 42).1,((MS.mk g m c l).flow nx fl nx x 42).2,fl):=by
 have hop:=hx.op
 obtain⟨v1,c1,l1,e1,r1,ok1,I1⟩:=ldq hs (by omega) (hs.g 6) (n:=1) rfl
 obtain⟨m',c',l',e2,r2,ok2⟩:=stq ok1 (by omega) (hs.g 7) (n:=1) rfl I1
 have r1':bA ((aR g 6 (az .i),1,()),(g,rip,fl,m,nx,c,()),l,())=_:=r1 rip fl nx
 have r2':bg ((aR g 7 (az .i),1,v1,()),(g,rip,fl,m,nx,c1,()),l1,())=_:=r2 rip fl nx
 have hre:(MS.mk g m c l).flow nx fl nx x 42=(⟨setA (setA g 7 (aB .i64 (rg g 7) 1)) 6 (aB .i64 (rg g 6) 1),m',c',l'⟩,nx):=by
  unfold MS.flow
  rw[iD,iD,iD,iD,iD,iD,iD,if_pos rfl]
  dsimp only
  rw[e1]
  dsimp only
  rw[e2]
  dsimp only
  rw[(xm g _).1,Et]
 rw[hre]
 unfold m5
 unfold aG
 dsimp only
 rw[hop,aq,ak,aq,ak,aq,ak,aq,ak,aq,ak,be,aE]
 rw[r1',aa]
 dsimp only[d5]
 rw[r2',aa,ec,aa]
 dsimp only
 have h6:aX (((aR (cF (dW 16 (az .i) g) 7 (aB .i64 (aR g 7 (az .i)) 1)) 6 (az .i)),1,()),())=some (aB .i64 (rg g 6) 1,()):=by
  rw[ec]
  have:=(xm g (aB .i64 (aR g 7 (az .i)) 1)).2
  unfold rg Go.Den.G.setA at this
  rw[this]
 rw[h6,aa]
 exact⟨_,fl,nx,rfl,.same rfl⟩
theorem GO (hx:ExV x 29):m5 g m c l x rip fl nx (((MS.mk g m c l).flow nx fl nx x 29).1,((MS.mk g m c l).flow nx fl nx x 29).2,fl):=by
 have hop:=hx.op
 have hsv:=hx.sv
 rw[show sSz x 29=x.size from by unfold sSz;rw[iD,hx.fr.2 (by decide),iD],hx.szs.2.2.1 (by decide)]at hsv
 obtain⟨v1,c1,l1,e1,r1,ok1,I1⟩:=gtq hs (by omega) (n:=8) rfl hsv nx
 obtain⟨g',m',c',l',e2,r2,ok2⟩:=puq ok1 (by omega) I1
 have r1':ax ((c9 x.src (),8,()),(g,rip,fl,m,nx,c,()),l,())=_:=r1 rip fl
 have hre:(MS.mk g m c l).flow nx fl nx x 29=(⟨g',m',c',l'⟩,nx):=by
  unfold MS.flow
  rw[if_pos rfl,e1]
  dsimp only
  rw[e2]
 rw[hre]
 unfold m5
 unfold aG
 dsimp only
 rw[hop,aq,ak,aq,ak,aq,ak,aq,ak,aq,ak,aq,ak,be,aE]
 rw[r1',aa]
 dsimp only[d5]
 rw[r2,aa]
 exact⟨⟨g',m',c',l'⟩,fl,nx,rfl,.same rfl⟩
theorem GP (hx:ExV x 30):m5 g m c l x rip fl nx (((MS.mk g m c l).flow nx fl nx x 30).1,((MS.mk g m c l).flow nx fl nx x 30).2,fl):=by
 have hop:=hx.op
 have hdv:=hx.dv
 rw[hx.szs.2.2.1 (by decide)]at hdv
 obtain⟨v1,g1,c1,l1,e1,r1,ok1,I1⟩:=poq hs (by omega)
 obtain⟨g',m',c',l',e2,r2,ok2⟩:=ptq ok1 (by omega) (n:=8) rfl hdv (hx.kd.1 (by decide)) nx I1
 have r2':aL ((c9 x.dst (),8,v1,()),(g1,rip,fl,m,nx,c1,()),l1,())=_:=r2 rip fl
 have hre:(MS.mk g m c l).flow nx fl nx x 30=(⟨g',m',c',l'⟩,nx):=by
  unfold MS.flow
  rw[iD,if_pos rfl,e1]
  dsimp only
  rw[e2]
 rw[hre]
 unfold m5
 unfold aG
 dsimp only
 rw[hop,aq,ak,aq,ak,aq,ak,aq,ak,aq,ak,aq,ak,aq,ak,be,aE]
 rw[r1,aa]
 dsimp only[d5]
 rw[r2',aa]
 exact⟨⟨g',m',c',l'⟩,fl,nx,rfl,.same rfl⟩
theorem GX (hx:ExV x 38):m5 g m c l x rip fl nx (((MS.mk g m c l).flow nx fl nx x 38).1,((MS.mk g m c l).flow nx fl nx x 38).2,fl):=by
 have hop:=hx.op
 have hre:(MS.mk g m c l).flow nx fl nx x 38=(⟨g,m,17,l⟩,nx):=by
  unfold MS.flow
  rw[iD,iD,iD,iD,iD,iD,iD,iD,if_pos rfl]
 rw[hre]
 unfold m5
 unfold aG
 dsimp only
 rw[hop,aq,ak,aq,ak,aq,ak,aq,ak,aq,ak,aq,ak,aq,ak,aq,ak,be,aE]
 exact⟨⟨g,m,17,l⟩,fl,nx,rfl,.same rfl⟩
theorem G2 (hx:ExV x 43):m5 g m c l x rip fl nx (((MS.mk g m c l).flow nx fl nx x 43).1,((MS.mk g m c l).flow nx fl nx x 43).2,fl):=by
 have hop:=hx.op
 have hre:(MS.mk g m c l).flow nx fl nx x 43=(⟨g,m,18,l⟩,nx):=by
  unfold MS.flow
  rw[iD,iD,iD,iD,iD,iD,iD,iD,iD,if_pos (by decide)]
 rw[hre]
 unfold m5
 unfold aG
 dsimp only
 rw[hop,aq,ak,aq,ak,aq,ak,aq,ak,aq,ak,aq,ak,aq,ak,aq,ak,aq,ak]
 rw[show eqI ((43:Nat):Int) 43=true from rfl,aE,aa,ah]
 dsimp only
 rw[aE]
 exact⟨⟨g,m,18,l⟩,fl,nx,rfl,.same rfl⟩
theorem G3 (hx:ExV x 44):m5 g m c l x rip fl nx (((MS.mk g m c l).flow nx fl nx x 44).1,((MS.mk g m c l).flow nx fl nx x 44).2,fl):=by
 have hop:=hx.op
 have hre:(MS.mk g m c l).flow nx fl nx x 44=(⟨g,m,18,l⟩,nx):=by
  unfold MS.flow
  rw[iD,iD,iD,iD,iD,iD,iD,iD,iD,if_pos (by decide)]
 rw[hre]
 unfold m5
 unfold aG
 dsimp only
 rw[hop,aq,ak,aq,ak,aq,ak,aq,ak,aq,ak,aq,ak,aq,ak,aq,ak,aq,ak]
 rw[show eqI ((44:Nat):Int) 43=false from rfl,ak,aa,ah]
 dsimp only
 rw[show eqI ((44:Nat):Int) 44=true from rfl,aE]
 exact⟨⟨g,m,18,l⟩,fl,nx,rfl,.same rfl⟩
theorem GQ (hx:ExV x 31)(hnx:I64 nx):m5 g m c l x rip fl nx (((MS.mk g m c l).flow nx fl nx x 31).1,((MS.mk g m c l).flow nx fl nx x 31).2,fl):=by
 have hop:=hx.op
 have hsv:=hx.sv
 rw[show sSz x 31=x.size from by unfold sSz;rw[iD,hx.fr.2 (by decide),iD],hx.szs.2.2.1 (by decide)]at hsv
 obtain⟨v1,c1,l1,e1,r1,ok1,I1⟩:=goq hs (by omega) hsv nx
 obtain⟨g',m',c',l',e2,r2,ok2⟩:=puq ok1 (by omega) hnx
 have hre:(MS.mk g m c l).flow nx fl nx x 31=(⟨g',m',c',l'⟩,v1):=by
  unfold MS.flow
  rw[iD,iD,if_pos rfl,e1]
  dsimp only
  rw[e2]
 rw[hre]
 unfold m5
 unfold aG
 dsimp only
 rw[hop,aq,ak,aq,ak,aq,ak,aq,ak,aq,ak,aq,ak,aq,ak,aq,ak,aq,ak]
 rw[show eqI ((31:Nat):Int) 43=false from rfl,ak,aa,ah]
 dsimp only
 rw[show eqI ((31:Nat):Int) 44=false from rfl,ak,Dn]
 unfold cq
 dsimp only
 rw[hop,be,aE]
 rw[r1,aa]
 dsimp only[d5]
 rw[r2,aa]
 exact⟨⟨g',m',c',l'⟩,fl,v1,rfl,.same rfl⟩
theorem GR (hx:ExV x 32):m5 g m c l x rip fl nx (((MS.mk g m c l).flow nx fl nx x 32).1,((MS.mk g m c l).flow nx fl nx x 32).2,fl):=by
 have hop:=hx.op
 have hsv:=hx.sv
 rw[show sSz x 32=x.size from by unfold sSz;rw[iD,hx.fr.2 (by decide),iD],hx.szs.2.2.1 (by decide)]at hsv
 obtain⟨v1,c1,l1,e1,r1,ok1,I1⟩:=goq hs (by omega) hsv nx
 have hre:(MS.mk g m c l).flow nx fl nx x 32=(⟨g,m,c1,l1⟩,v1):=by
  unfold MS.flow
  rw[iD,iD,iD,iD,if_pos rfl,e1]
 rw[hre]
 unfold m5
 unfold aG
 dsimp only
 rw[hop,aq,ak,aq,ak,aq,ak,aq,ak,aq,ak,aq,ak,aq,ak,aq,ak,aq,ak]
 rw[show eqI ((32:Nat):Int) 43=false from rfl,ak,aa,ah]
 dsimp only
 rw[show eqI ((32:Nat):Int) 44=false from rfl,ak,Dn]
 unfold cq
 dsimp only
 rw[hop,aq,ak,be,aE]
 rw[r1,aa]
 exact⟨⟨g,m,c1,l1⟩,fl,v1,rfl,.same rfl⟩
theorem GS (hx:ExV x 33):m5 g m c l x rip fl nx (((MS.mk g m c l).flow nx fl nx x 33).1,((MS.mk g m c l).flow nx fl nx x 33).2,fl):=by
 have hop:=hx.op
 have hk3:=hx.kd.2.2.2.2.2.2.2.1 rfl
 have hgo:∀s:MS,s.go nx x=(aB .i64 nx x.src.imm,s):=fun s=>if_pos hk3
 have hg2:bO ((x,()),(g,rip,fl,m,nx,c,()),l,())=some (aB .i64 nx x.src.imm,(g,rip,fl,m,nx,c,()),l,()):=by
  unfold bO
  dsimp only
  rw[be hk3,aE,ec,aa]
 have hre:(MS.mk g m c l).flow nx fl nx x 33=(⟨g,m,c,l⟩,if jl x.cond fl=true then aB .i64 nx x.src.imm else nx):=by
  unfold MS.flow
  rw[iD,iD,iD,iD,iD,if_pos rfl,hgo]
  split<;>rfl
 rw[hre]
 unfold m5
 unfold aG
 dsimp only
 rw[hop,aq,ak,aq,ak,aq,ak,aq,ak,aq,ak,aq,ak,aq,ak,aq,ak,aq,ak]
 rw[show eqI ((33:Nat):Int) 43=false from rfl,ak,aa,ah]
 dsimp only
 rw[show eqI ((33:Nat):Int) 44=false from rfl,ak,Dn]
 unfold cq
 dsimp only
 rw[hop,aq,ak,aq,ak,be,aE]
 rw[n9 hx.c0 hx.c1,aa]
 dsimp only
 by_cases hh:jl x.cond fl=true
 ·rw[hh,aE,hg2,aa,if_pos rfl]
  exact⟨⟨g,m,c,l⟩,fl,_,rfl,.same rfl⟩
 ·rw[Bool.eq_false_iff.2 hh,ak,iD]
  exact⟨⟨g,m,c,l⟩,fl,_,rfl,.same rfl⟩
theorem GT (hx:ExV x 34):m5 g m c l x rip fl nx (((MS.mk g m c l).flow nx fl nx x 34).1,((MS.mk g m c l).flow nx fl nx x 34).2,fl):=by
 have hop:=hx.op
 obtain⟨v1,g1,c1,l1,e1,r1,ok1,I1⟩:=poq hs (by omega)
 have hre:(MS.mk g m c l).flow nx fl nx x 34=(⟨g1,m,c1,l1⟩,v1):=by
  unfold MS.flow
  rw[iD,iD,iD,if_pos rfl,e1]
 rw[hre]
 unfold m5
 unfold aG
 dsimp only
 rw[hop,aq,ak,aq,ak,aq,ak,aq,ak,aq,ak,aq,ak,aq,ak,aq,ak,aq,ak]
 rw[show eqI ((34:Nat):Int) 43=false from rfl,ak,aa,ah]
 dsimp only
 rw[show eqI ((34:Nat):Int) 44=false from rfl,ak,Dn]
 unfold cq
 dsimp only
 rw[hop,aq,ak,aq,ak,aq,ak,be,aE]
 rw[r1,aa]
 exact⟨⟨g1,m,c1,l1⟩,fl,v1,rfl,.same rfl⟩
theorem GW (hx:ExV x 37):m5 g m c l x rip fl nx (((MS.mk g m c l).flow nx fl nx x 37).1,((MS.mk g m c l).flow nx fl nx x 37).2,fl):=by
 have hop:=hx.op
 have hre:(MS.mk g m c l).flow nx fl nx x 37=(⟨g,m,c,l⟩,nx):=by
  unfold MS.flow
  rw[iD,iD,iD,iD,iD,iD,iD,iD,iD,iD]
 rw[hre]
 unfold m5
 unfold aG
 dsimp only
 rw[hop,aq,ak,aq,ak,aq,ak,aq,ak,aq,ak,aq,ak,aq,ak,aq,ak,aq,ak]
 rw[show eqI ((37:Nat):Int) 43=false from rfl,ak,aa,ah]
 dsimp only
 rw[show eqI ((37:Nat):Int) 44=false from rfl,ak,Dn]
 unfold cq
 dsimp only
 rw[hop,aq,ak,aq,ak,aq,ak,aq,ak]
 exact⟨⟨g,m,c,l⟩,fl,nx,rfl,.same rfl⟩
end
end
end Go.Den.G
