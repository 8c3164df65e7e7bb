/- Theory for the proofs of this claim: see its last text. -/
import Derived.Test.YtlcacoglljcgeaaGreatFnRunBox
import Derived.Test.YtlcacoglljcgeaaGreatDenF
import Derived.KernelRfl
import Derived.Laws.MathBits
import Derived.Test.YtlcacoglljcgeaaGreatPaRunBox
namespace Go.Den.G
open Go.Den
set_option maxRecDepth 100000
structure AddInv (A B c0 i out c:Nat):Prop where
 lo:out<2^i
 hc:c<=1
 e:out+2^i*c=A%2^i+B%2^i+c0
structure SubInv (A B c0 i out c:Nat):Prop where
 lo:out<2^i
 hc:c<=1
 e:out+B%2^i+c0=A%2^i+2^i*c
theorem AddInv.init {A B c0:Nat}(h:c0<=1):AddInv A B c0 0 0 c0:=⟨by decide,h,by omega⟩
theorem SubInv.init {A B c0:Nat}(h:c0<=1):SubInv A B c0 0 0 c0:=⟨by decide,h,by omega⟩
theorem qn (A i:Nat):A/2^i%2=0\/A/2^i%2=1:=by omega
theorem AddInv.step {A B c0 i out c:Nat}(h:AddInv A B c0 i out c):
  AddInv A B c0 (i+1) (out+2^i*((A/2^i%2+B/2^i%2+c)%2)) ((A/2^i%2+B/2^i%2+c)/2):=by
 obtain⟨h1,h2,h3⟩:=h
 have hp:=Nat.two_pow_pos i
 have hx:=qn A i
 have hy:=qn B i
 have hc:c=0\/c=1:=by omega
 refine⟨?_,?_,?_⟩
 ·rw[Nat.pow_succ]
  rcases hx with hx|hx<;>rcases hy with hy|hy<;>rcases hc with hc|hc<;>rw[hx,hy,hc]<;>simp only[Nat.reduceAdd,Nat.reduceMod,Nat.mul_zero,Nat.mul_one]<;>omega
 ·omega
 ·rw[Nat.mod_pow_succ,Nat.mod_pow_succ,Nat.pow_succ]
  generalize A%2^i=a at*
  generalize B%2^i=b at*
  rcases hx with hx|hx<;>rcases hy with hy|hy<;>rcases hc with hc|hc<;>rw[hc]at h3<;>rw[hx,hy,hc]<;>simp only[Nat.reduceAdd,Nat.reduceMod,Nat.reduceDiv,Nat.mul_zero,Nat.mul_one]at* <;>omega
theorem SubInv.step {A B c0 i out c:Nat}(h:SubInv A B c0 i out c):
  SubInv A B c0 (i+1) (out+2^i*((A/2^i%2+2-B/2^i%2-c)%2)) (if A/2^i%2+2-B/2^i%2-c<2 then 1 else 0):=by
 obtain⟨h1,h2,h3⟩:=h
 have hp:=Nat.two_pow_pos i
 have hx:=qn A i
 have hy:=qn B i
 have hc:c=0\/c=1:=by omega
 refine⟨?_,?_,?_⟩
 ·rw[Nat.pow_succ]
  rcases hx with hx|hx<;>rcases hy with hy|hy<;>rcases hc with hc|hc<;>rw[hx,hy,hc]<;>simp only[Nat.reduceAdd,Nat.reduceSub,Nat.reduceMod,Nat.mul_zero,Nat.mul_one]<;>omega
 ·split<;>omega
 ·rw[Nat.mod_pow_succ,Nat.mod_pow_succ,Nat.pow_succ]
  generalize A%2^i=a at*
  generalize B%2^i=b at*
  rcases hx with hx|hx<;>rcases hy with hy|hy<;>rcases hc with hc|hc<;>rw[hc]at h3<;>rw[hx,hy,hc]<;>simp only[Nat.reduceAdd,Nat.reduceSub,Nat.reduceMod,Nat.mul_zero,Nat.mul_one,Nat.reduceLT,if_true,if_false]at* <;>omega
theorem AddInv.fin {A B c0 i out c:Nat}(h:AddInv A B c0 i out c):out=(A%2^i+B%2^i+c0)%2^i/\c=(A%2^i+B%2^i+c0)/2^i:=by
 obtain⟨h1,h2,h3⟩:=h
 rw[<-h3]
 constructor
 ·rw[Nat.add_mul_mod_self_left,Nat.mod_eq_of_lt h1]
 ·rw[Nat.add_mul_div_left _ _ (Nat.two_pow_pos i),Nat.div_eq_of_lt h1,Nat.zero_add]
theorem SubInv.fin {A B c0 i out c:Nat}(h:SubInv A B c0 i out c):out%2^i=(A%2^i+2^i-B%2^i-c0)%2^i/\c=(if A%2^i<B%2^i+c0 then 1 else 0):=by
 obtain⟨h1,h2,h3⟩:=h
 have hp:=Nat.two_pow_pos i
 have hA:=Nat.mod_lt A hp
 have hB:=Nat.mod_lt B hp
 generalize A%2^i=a at*
 generalize B%2^i=b at*
 generalize 2^i=P at*
 have hc:c=0\/c=1:=by omega
 rcases hc with rfl|rfl
 ·rw[Nat.mul_zero]at h3
  constructor
  ·rw[show a+P-b-c0=out+P by omega,Nat.add_mod_right]
  ·rw[iN]
 ·rw[Nat.mul_one]at h3
  constructor
  ·rw[show a+P-b-c0=out by omega]
  ·rw[iP]
structure WideInv (a b k:Nat)(h l:Int):Prop where
 h0:0<=h
 l0:0<=l
 hl:l<18446744073709551616
 e:h*18446744073709551616+l=((a*(b/2^k):Nat):Int)
theorem WideInv.init {a b:Nat}(hb:b<18446744073709551616):WideInv a b 64 0 0:=⟨by omega,by omega,by omega,by rw[Nat.div_eq_of_lt hb];rfl⟩
theorem wo (b k:Nat):b/2^k=2*(b/2^(k+1))+b/2^k%2:=by
 rw[Nat.pow_succ,<-Nat.div_div_eq_div_mul]
 omega
theorem Iq (a b k:Nat):a*(b/2^k)=2*(a*(b/2^(k+1)))+a*(b/2^k%2):=by
 have h4:a*(b/2^k)=a*(2*(b/2^(k+1))+b/2^k%2):=congrArg _ (wo b k)
 rw[h4,Nat.mul_add,Nat.mul_left_comm]
theorem Fc {a b:Nat}(k:Nat)(ha:a<18446744073709551616)(hb:b<18446744073709551616):((a*(b/2^k):Nat):Int)<340282366920938463463374607431768211456:=by
 have:a*(b/2^k)<18446744073709551616*18446744073709551616:=Nat.mul_lt_mul'' ha (Nat.lt_of_le_of_lt (Nat.div_le_self _ _) hb)
 exact Int.ofNat_lt.2 this
theorem wide0I {h l p p1:Int}(l0:0<=l)(h0:0<=h)(h2:h*18446744073709551616+l=p1)(e:p=2*p1+0)(h1:l<18446744073709551616)(hq:p<340282366920938463463374607431768211456):
  (h*2+l/9223372036854775808)%18446744073709551616*18446744073709551616+l*2%18446744073709551616=p:=by omega
theorem wide1I {h l a p p1 l' h':Int}(l0:0<=l)(h0:0<=h)(a0:0<=a)(h2:h*18446744073709551616+l=p1)(e:p=2*p1+a)(h1:l<18446744073709551616)(ha:a<18446744073709551616)(hq:p<340282366920938463463374607431768211456)
  (e1:h'=(h*2+l/9223372036854775808)%18446744073709551616) (e2:l'=l*2%18446744073709551616):
  ((l'+a)%18446744073709551616<l'->(h'+1)%18446744073709551616*18446744073709551616+(l'+a)%18446744073709551616=p)/\(¬(l'+a)%18446744073709551616<l'->h'*18446744073709551616+(l'+a)%18446744073709551616=p):=by constructor<;>intro g<;>omega
theorem WideInv.step0 {a b k:Nat}{h l:Int}(ha:a<18446744073709551616)(hb:b<18446744073709551616)(H:WideInv a b (k+1) h l)(h0:b/2^k%2=0):
  WideInv a b k ((h*2+l/9223372036854775808)%18446744073709551616) (l*2%18446744073709551616):=by
 obtain⟨h1,h3,h4,h2⟩:=H
 have hq:=Fc k ha hb
 have e:=Iq a b k
 rw[h0,Nat.mul_zero]at e
 exact⟨by omega,by omega,by omega,wide0I h3 h1 h2 (by omega) h4 hq⟩
theorem WideInv.step1 {a b k:Nat}{h l h' l':Int}(ha:a<18446744073709551616)(hb:b<18446744073709551616)(H:WideInv a b (k+1) h l)(h0:b/2^k%2=1)
  (e1:h'=(h*2+l/9223372036854775808)%18446744073709551616) (e2:l'=l*2%18446744073709551616):
  ((l'+a)%18446744073709551616<l'->WideInv a b k ((h'+1)%18446744073709551616) ((l'+a)%18446744073709551616))/\(¬(l'+a)%18446744073709551616<l'->WideInv a b k h' ((l'+a)%18446744073709551616)):=by
 obtain⟨h1,h3,h4,h2⟩:=H
 have hq:=Fc k ha hb
 have e:=Iq a b k
 rw[h0,Nat.mul_one]at e
 have:=wide1I (h:=h) (l:=l) (a:=a) h3 h1 (by omega) h2 (by omega) h4 (by omega) hq e1 e2
 exact⟨fun g=>⟨by omega,by omega,by omega,this.1 g⟩,fun g=>⟨by omega,by omega,by omega,this.2 g⟩⟩
theorem WideInv.fin {a b:Nat}{h l:Int}(H:WideInv a b 0 h l):h=((a*b/18446744073709551616:Nat):Int)/\l=((a*b%18446744073709551616:Nat):Int):=by
 obtain⟨h1,h3,h4,h2⟩:=H
 rw[Nat.pow_zero,Nat.div_one]at h2
 rw[Int.natCast_ediv,Int.natCast_emod]
 obtain⟨p,hp⟩:∃p,p=a*b:=⟨_,rfl⟩
 rw[<-hp]at h2|-
 omega
structure QuoInv (hi lo d k q r:Nat):Prop where
 lt:r<d
 e:hi*2^(64-k)+lo/2^k=q*d+r
theorem QuoInv.init {hi lo d:Nat}(h:hi<d)(hl:lo<18446744073709551616):QuoInv hi lo d 64 0 hi:=⟨h,by rw[Nat.div_eq_of_lt hl];simp⟩
theorem QuoInv.step {hi lo d k q r:Nat}(hk:k<64)(H:QuoInv hi lo d (k+1) q r):
  (r*2+lo/2^k%2<d->QuoInv hi lo d k (q*2) (r*2+lo/2^k%2))/\(d<=r*2+lo/2^k%2->QuoInv hi lo d k (q*2+1) (r*2+lo/2^k%2-d)):=by
 obtain⟨h1,h2⟩:=H
 have hs:=wo lo k
 have e1:hi*2^(64-k)=2*(hi*2^(64-(k+1))):=by
  rw[show 64-k=64-(k+1)+1 by omega,Nat.pow_succ]
  generalize 2^(64-(k+1))=P
  rw[<-Nat.mul_assoc,Nat.mul_comm]
 have e2:hi*2^(64-k)+lo/2^k=q*2*d+(r*2+lo/2^k%2):=by
  rw[Nat.mul_right_comm,e1]
  generalize hi*2^(64-(k+1))=p at*
  generalize q*d=s at*
  omega
 refine⟨fun h=>⟨h,e2⟩,fun h=>⟨by omega,?_⟩⟩
 rw[e2,Nat.add_mul,Nat.one_mul]
 generalize q*2*d=s at*
 omega
theorem QuoInv.fin {hi lo d q r:Nat}(H:QuoInv hi lo d 0 q r):q=(hi*18446744073709551616+lo)/d/\r=(hi*18446744073709551616+lo)%d:=by
 obtain⟨h1,h2⟩:=H
 have e:hi*18446744073709551616+lo=r+d*q:=by
  rw[Nat.mul_comm d q,Nat.add_comm r,<-h2]
  simp
 rw[e]
 constructor
 ·rw[Nat.add_mul_div_left _ _ (by omega),Nat.div_eq_of_lt h1,Nat.zero_add]
 ·rw[Nat.add_mul_mod_self_left,Nat.mod_eq_of_lt h1]
set_option maxRecDepth 100000
theorem CB (v:Int)(k:Nat)(hk:k<=63):aO ((v,(k:Int),()),())=some (((uns v/2^k%2:Nat):Int),()):=by
 rw[mH _ _ (by omega) (by omega),Int.toNat_natCast,<-bt]
 simp
theorem Fm (v:Int)(k:Nat):eqI ((uns v/2^k%2:Nat):Int) 1=ma v k:=by
 rw[jg,Nat.testBit_eq_decide_div_mod_eq]
 unfold eqI
 rw[Bool.eq_iff_iff,decide_eq_true_eq,decide_eq_true_eq]
 omega
theorem lr (b:Bool)(k:Int):cf ((b,k,()),())=some (if b=true then k else 0,()):=by
 unfold cf
 cases b<;>rfl
theorem wJ (b:Bool):fo ((b,()),())=some (if b=true then 1 else 0,()):=by
 unfold fo
 cases b<;>rfl
def wZ (u:Nat):Nat->Nat
 |0=>0
 |k+1=>wZ u k+u/2^k%2
theorem GL (u k:Nat):wZ u k<=k:=by
 induction k with
 |zero=>exact Nat.le_refl 0
 |succ k ih=>unfold wZ;omega
theorem G9 (u:Nat)(h:u<256):parL.getD u false=((u%2+u/2%2+u/4%2+u/8%2+u/16%2+u/32%2+u/64%2+u/128%2)%2==0):=by
 unfold parL
 rw[List.getD_eq_getElem?_getD,List.getElem?_map,List.getElem?_range h]
 rfl
theorem mw (u k:Nat)(hk:k<8):u%256/2^k%2=u/2^k%2:=by
 have h:256=2^k*2^(8-k):=by rw[<-Nat.pow_add,show k+(8-k)=8 by omega]
 have h2:2^(8-k)=2*2^(7-k):=by rw[show 8-k=7-k+1 by omega,Nat.pow_succ,Nat.mul_comm]
 rw[h,Nat.mod_mul_right_div_self,h2,Nat.mod_mul_right_mod]
theorem Ec (v:Int):eqI (fv ((wZ (uns v) 8:Nat):Int) 2) 0=G8 v:=by
 unfold G8
 rw[G9 _ (Nat.mod_lt _ (by decide)),dH]
 generalize uns v=u
 have b0:=mw u 0 (by decide)
 have b1:=mw u 1 (by decide)
 have b2:=mw u 2 (by decide)
 have b3:=mw u 3 (by decide)
 have b4:=mw u 4 (by decide)
 have b5:=mw u 5 (by decide)
 have b6:=mw u 6 (by decide)
 have b7:=mw u 7 (by decide)
 rw[show(2:Nat)^0=1 from rfl,Nat.div_one,Nat.div_one]at b0
 rw[show(2:Nat)^1=2 from rfl]at b1
 rw[show(2:Nat)^2=4 from rfl]at b2
 rw[show(2:Nat)^3=8 from rfl]at b3
 rw[show(2:Nat)^4=16 from rfl]at b4
 rw[show(2:Nat)^5=32 from rfl]at b5
 rw[show(2:Nat)^6=64 from rfl]at b6
 rw[show(2:Nat)^7=128 from rfl]at b7
 rw[b0,b1,b2,b3,b4,b5,b6,b7]
 have e:wZ u 8=u%2+u/2%2+u/4%2+u/8%2+u/16%2+u/32%2+u/64%2+u/128%2:=by
  show 0+u/2^0%2+u/2^1%2+u/2^2%2+u/2^3%2+u/2^4%2+u/2^5%2+u/2^6%2+u/2^7%2=_
  rw[Nat.zero_add,show(2:Nat)^0=1 from rfl,Nat.div_one]
 rw[e]
 generalize u%2+u/2%2+u/4%2+u/8%2+u/16%2+u/32%2+u/64%2+u/128%2=t
 unfold eqI
 rw[Bool.eq_iff_iff,decide_eq_true_eq,beq_iff_eq]
 omega
theorem oJ {v:Int}{n:Nat}(hn:cl (n:Int)=true)(hv:I64 v):dm (((n:Int),v,()),())=some (xF n v,()):=by
 obtain⟨h1,h8⟩:=dM hn
 unfold dm
 dsimp only
 refine(Ret.iter (fun x=>∃k:Nat,k<=8/\x=(((n:Int),v,((wZ (uns v) k:Nat):Int),(k:Int),()),())) (fun x=>8-x.1.2.2.2.1.toNat) ?_ F _ ⟨0,by omega,rfl⟩ (by unfold F;dsimp only;omega)).eq
 rintro _ rec ⟨k,hk,rfl⟩ hrec
 dsimp only at hrec|-
 by_cases h:k<8
 ·rw[ae (fP),CB _ _ (by omega),aa]
  dsimp only
  have:=GL (uns v) k
  rw[aH,aH (a:=(k:Int))]
  exact hrec _ ⟨k+1,by omega,by
   rw[show wZ (uns v) (k+1)=wZ (uns v) k+uns v/2^k%2 from rfl,Int.natCast_add]
   rfl⟩ (by dsimp only;omega)
 ·obtain rfl:k=8:=by omega
  rw[ag (fL),cY (a:=8),bn,show 8*(n:Int)-1=((8*n-1:Nat):Int)by omega,CB _ _ (by omega),aa]
  dsimp only
  rw[Fm,lr,aa,bw hv n hn,aa]
  dsimp only
  rw[lr,aa]
  dsimp only
  rw[Ec,lr,aa]
  refine Ret.some ?_
  unfold xF
  simp only[nJ]
theorem bitOr {out i b:Nat}(h:out<2^i)(hb:b<=1)(hi:i<=63):ior .u64 (out:Int) (dE .u64 (b:Int) (i:Int))=((out+2^i*b:Nat):Int):=by
 have hp:2^(i+1)<=2^64:=Nat.pow_le_pow_right (by decide) (by omega)
 have hl:b*2^i<2^64:=by
  have:b*2^i<=1*2^i:=Nat.mul_le_mul_right _ hb
  rw[Nat.pow_succ]at hp
  have:=Nat.two_pow_pos i
  omega
 have hs:out+2^i*b<2^64:=by
  have:2^i*b<=2^i*1:=Nat.mul_le_mul_left _ hb
  rw[Nat.pow_succ]at hp
  omega
 rw[Ij (by omega),Nat.mod_eq_of_lt hl]
 unfold ior
 rw[fg]
 have e1:(BitVec.ofInt IntKind.u64.bits (out:Int)|||BitVec.ofInt IntKind.u64.bits ((b*2^i:Nat):Int)).toNat=out|||b*2^i:=by
  rw[BitVec.toNat_or]
  show(BitVec.ofInt 64 (out:Int)).toNat|||(BitVec.ofInt 64 ((b*2^i:Nat):Int)).toNat=_
  have hh:∀k:Nat,k<2^64->(BitVec.ofInt 64 (k:Int)).toNat=k:=fun k hk=>by
   rw[BitVec.toNat_ofInt]
   have:((k:Int)%((2^64:Nat):Int))=((k%2^64:Nat):Int):=(Int.natCast_emod ..).symm
   rw[this,Int.toNat_natCast,Nat.mod_eq_of_lt hk]
  rw[hh _ (by omega),hh _ hl]
 rw[e1,Nat.or_comm,Nat.mul_comm b,<-Nat.two_pow_add_eq_or_of_lt h,Nat.add_comm]
 have:((out+2^i*b:Nat):Int)<((2^64:Nat):Int):=Int.ofNat_lt.2 hs
 exact Int.emod_eq_of_lt (by omega) this
theorem vh {i n:Nat}(h:i<=8*n)(v:Int):ch v n%2^i=uns v%2^i:=by
 unfold ch
 exact Nat.mod_mod_of_dvd _ (Nat.pow_dvd_pow 2 h)
theorem lU {a b:Int}{n c:Nat}(less:Bool)(hn:cl (n:Int)=true)(hc:c<=1):
  cj (((n:Int),a,b,(c:Int),less,()),())=some (((if less=true then t5 n a b c else vN n a b c).1,(if less=true then t5 n a b c else vN n a b c).2,()),()):=by
 obtain⟨h1,h8⟩:=dM hn
 unfold cj
 dsimp only
 refine(Ret.iter (fun x=>∃i out c' into:Nat,i<=8*n/\(if less=true then SubInv (uns a) (uns b) c i out c' else AddInv (uns a) (uns b) c i out c')/\
   (∀j,i=j+1->∃out',if less=true then SubInv (uns a) (uns b) c j out' into else AddInv (uns a) (uns b) c j out' into)/\
   x=(((n:Int),(a,(b,(less,((out:Int),((c':Int),((into:Int),((i:Int),())))))))),())) (fun x=>8*n-(p7 x.1).toNat) ?_ F _ ⟨0,0,c,0,by omega,by cases less;exact AddInv.init hc;exact SubInv.init hc,fun j hj=>by omega,rfl⟩ (by unfold F;dsimp only[p7];omega)).eq
 rintro _ rec ⟨i,out,c',into,hi,hv,hin,rfl⟩ hrec
 dsimp only[p5,p6,p7,p8,d7]at hrec|-
 rw[cY (a:=8)]
 by_cases h:i<8*n
 ·rw[ae (fP),CB _ _ (by omega),CB _ _ (by omega),aa,aa]
  dsimp only
  have hx:=qn (uns a) i
  have hy:=qn (uns b) i
  have hwi:aj .u64 (i:Int)=(i:Int):=cH
  have next:∀(d k:Nat),d<=1->k<=1->(if less=true then SubInv (uns a) (uns b) c (i+1) (out+2^i*d) k else AddInv (uns a) (uns b) c (i+1) (out+2^i*d) k)->
    Ret (br (leI 0 (aj .u64 (i:Int))) (rec (((n:Int),a,b,less,(ior .u64 (out:Int) (dE .u64 (aj .u64 (d:Int)) (aj .u64 (i:Int)))),(k:Int),(c':Int),(aA .i64 (i:Int) 1),()),())) none) (fun z=>z=(((if less=true then t5 n a b c else vN n a b c).1,(if less=true then t5 n a b c else vN n a b c).2,()),())):=fun d k hd hk hinv=>by
   have hwd:aj .u64 (d:Int)=(d:Int):=cH
   have hlo:out<2^i:=by cases less;exact hv.lo;exact hv.lo
   rw[hwi,hwd,ae (fu),bitOr hlo hd (by omega),aH]
   exact hrec _ ⟨i+1,_,k,c',by omega,hinv,fun j hj=>by
    obtain rfl:j=i:=by omega
    exact⟨out,hv⟩,rfl⟩ (by dsimp only;omega)
  cases less with
  |true=>
   rw[aE,wJ,aa,aa,ah]
   have hv:SubInv (uns a) (uns b) c i out c':=hv
   have hc':=hv.hc
   have st:=hv.step
   obtain⟨x,hx'⟩:∃x,x=uns a/2^i%2:=⟨_,rfl⟩
   obtain⟨y,hy'⟩:∃y,y=uns b/2^i%2:=⟨_,rfl⟩
   rw[<-hx']at hx st|-
   rw[<-hy']at hy st|-
   have e1:aA .i64 (aT .i64 (aT .i64 (x:Int) (y:Int)) (c':Int)) 2=((x+2-y-c':Nat):Int):=by
    rw[bn (a:=(x:Int)) (b:=(y:Int)),bn,aH];omega
   rw[e1,dH]
   have e2:((x+2-y-c':Nat):Int)%2=(((x+2-y-c')%2:Nat):Int):=by omega
   have e3:(if ltI ((x+2-y-c':Nat):Int) 2=true then(1:Int)else 0)=((if x+2-y-c'<2 then 1 else 0:Nat):Int):=by
    by_cases g:x+2-y-c'<2
    ·rw[fP,if_pos rfl,if_pos g];rfl
    ·rw[fL,iD,if_neg g];rfl
   dsimp only
   rw[e2,e3]
   exact next _ _ (by omega) (by split<;>omega) st
  |false=>
   rw[ak,aa,ah]
   have hv:AddInv (uns a) (uns b) c i out c':=hv
   have hc':=hv.hc
   have st:=hv.step
   obtain⟨x,hx'⟩:∃x,x=uns a/2^i%2:=⟨_,rfl⟩
   obtain⟨y,hy'⟩:∃y,y=uns b/2^i%2:=⟨_,rfl⟩
   rw[<-hx']at hx st|-
   rw[<-hy']at hy st|-
   have e1:aA .i64 (aA .i64 (x:Int) (y:Int)) (c':Int)=((x+y+c':Nat):Int):=by
    rw[aH (a:=(x:Int)) (b:=(y:Int)),aH];omega
   rw[e1,dH,fU (by omega) (by decide) (by omega)]
   have e2:((x+y+c':Nat):Int)%2=(((x+y+c')%2:Nat):Int):=by omega
   have e3:((x+y+c':Nat):Int)/2=(((x+y+c')/2:Nat):Int):=by omega
   dsimp only
   rw[e2,e3]
   exact next _ _ (by omega) (by omega) st
 ·obtain rfl:i=8*n:=by omega
  obtain⟨out',hin⟩:=hin (8*n-1) (by omega)
  rw[ag (fL)]
  have hV:aj .i64 (out:Int)=(if less=true then Hw n a b c else sumV n a b c):=by
   cases less with
   |true=>
    have hv:SubInv (uns a) (uns b) c (8*n) out c':=hv
    rw[if_pos rfl]
    unfold Hw nH aj
    have:=hv.fin.1
    unfold ch
    rw[<-this,Nat.mod_eq_of_lt hv.lo]
   |false=>
    have hv:AddInv (uns a) (uns b) c (8*n) out c':=hv
    rw[iD]
    unfold sumV nH aj
    have:=hv.fin.1
    unfold ch
    rw[<-this]
  have hC:eqI (c':Int) 1=(if less=true then subC n a b c else sumC n a b c):=by
   cases less with
   |true=>
    have hv:SubInv (uns a) (uns b) c (8*n) out c':=hv
    rw[if_pos rfl]
    unfold subC ch eqI
    have:=hv.fin.2
    rw[Bool.eq_iff_iff,decide_eq_true_eq,decide_eq_true_eq]
    by_cases g:uns a%2^(8*n)<uns b%2^(8*n)+c
    ·rw[if_pos g]at this;omega
    ·rw[if_neg g]at this;omega
   |false=>
    have hv:AddInv (uns a) (uns b) c (8*n) out c':=hv
    rw[iD]
    unfold sumC ch eqI
    rw[<-hv.fin.2,Bool.eq_iff_iff,decide_eq_true_eq,decide_eq_true_eq]
    omega
  have hT:eqI (into:Int) 1=(if less=true then EP n a b c else sumI n a b c)/\into<=1:=by
   cases less with
   |true=>
    have hin:SubInv (uns a) (uns b) c (8*n-1) out' into:=hin
    refine⟨?_,hin.hc⟩
    rw[if_pos rfl]
    unfold EP eqI
    rw[vh (by omega),vh (by omega)]
    have:=hin.fin.2
    rw[Bool.eq_iff_iff,decide_eq_true_eq,decide_eq_true_eq]
    by_cases g:uns a%2^(8*n-1)<uns b%2^(8*n-1)+c
    ·rw[if_pos g]at this;omega
    ·rw[if_neg g]at this;omega
   |false=>
    have hin:AddInv (uns a) (uns b) c (8*n-1) out' into:=hin
    refine⟨?_,hin.hc⟩
    rw[iD]
    unfold sumI eqI
    rw[vh (by omega),vh (by omega),<-hin.fin.2,Bool.eq_iff_iff,decide_eq_true_eq,decide_eq_true_eq]
    omega
  have hc':c'<=1:=by cases less;exact hv.hc;exact hv.hc
  have hne:aP (eqI (c':Int) (into:Int))=(eqI (c':Int) 1 != eqI (into:Int) 1):=by
   have:=hT.2
   rw[neI]
   have a1:c'=0\/c'=1:=by omega
   have a2:into=0\/into=1:=by omega
   rcases a1 with rfl|rfl<;>rcases a2 with rfl|rfl<;>rfl
  rw[hV,oJ hn (by split<;>exact lm _ _),aa,lr,aa,hne,hC,hT.1,lr,aa]
  dsimp only
  refine Ret.some ?_
  cases less with
  |true=>rfl
  |false=>rfl
theorem vE {a b:Int}{n c:Nat}(hn:cl (n:Int)=true)(ha:I64 a)(hb:I64 b):vN n (bW a n) (bW b n) c=vN n a b c:=by
 unfold vN sumV sumC sumI
 rw[nn ha hn,nn hb hn]
theorem qP {a b:Int}{n c:Nat}(hn:cl (n:Int)=true)(ha:I64 a)(hb:I64 b):t5 n (bW a n) (bW b n) c=t5 n a b c:=by
 unfold t5 Hw subC EP
 rw[nn ha hn,nn hb hn]
theorem wQ {v w:Int}{n:Nat}(hn:cl (n:Int)=true)(hv:I64 v)(hw:I64 w)(h:ch v n=ch w n):bW v n=bW w n:=by rw[jl hv hn,jl hw hn,h]
theorem t7 {v w:Int}{n:Nat}(hn:cl (n:Int)=true)(hv:I64 v)(hw:I64 w)(h:ch v n=ch w n):xF n v=xF n w:=by
 obtain⟨h1,h8⟩:=dM hn
 unfold xF
 rw[kw (n:=n) (by omega),kw (v:=w) (n:=n) (by omega),h,wQ hn hv hw h]
 have hp:G8 v=G8 w:=by
  unfold G8
  have e:∀v:Int,uns v%256=ch v n%256:=fun v=>by
   unfold ch
   rw[Nat.mod_mod_of_dvd _ (show 256∣2^(8*n)from by
    have:=Nat.pow_dvd_pow 2 (show 8<=8*n by omega)
    exact this)]
  rw[e v,e w,h]
 rw[hp]
theorem HA {v:Int}{n:Nat}(hn:cl (n:Int)=true)(hv:I64 v):xF n (bW v n)=xF n v:=t7 hn (eM hv hn) hv (nn hv hn)
theorem nD (op a b:Int):I64 (ml op a b):=by
 unfold ml
 split
 ·exact lA ..
 split
 ·exact ow ..
 ·exact au _
theorem AI {op a b:Int}{n:Nat}(hn:cl (n:Int)=true)(ha:I64 a)(hb:I64 b):ch (ml op (bW a n) (bW b n)) n=ch (ml op a b) n/\ch (ml op a b) n=uns (ml op (bW a n) (bW b n)):=by
 have h8:=(dM hn).2
 have hlt:∀v,ch v n%2^(8*n)=ch v n:=fun v=>Nat.mod_eq_of_lt (gP v n)
 have key:ch (ml op a b) n=uns (ml op (bW a n) (bW b n)):=by
  unfold ml
  split
  ·rw[mX,cz ha hn,cz hb hn]
   unfold ch
   rw[mX,Nat.or_mod_two_pow]
  split
  ·rw[qR,cz ha hn,cz hb hn]
   unfold ch
   rw[qR,Nat.xor_mod_two_pow]
  ·rw[qQ,cz ha hn,cz hb hn]
   unfold ch
   rw[qQ,Nat.and_mod_two_pow]
 refine⟨?_,key⟩
 show uns (ml op (bW a n) (bW b n))%2^(8*n)=_
 rw[<-key,hlt]
theorem xK {op a b:Int}{n:Nat}(hn:cl (n:Int)=true)(ha:I64 a)(hb:I64 b):bW (ml op a b) n=ml op (bW a n) (bW b n):=by
 refine j8 (eM (nD ..) hn) (nD ..) ?_
 rw[cz (nD ..) hn,(AI hn ha hb).2]
theorem Bm (op a b:Int):il ((op,a,b,()),())=some (ml op a b,()):=by
 unfold il ml
 dsimp only
 by_cases h2:op=2
 ·rw[be h2,aE,if_pos h2]
 ·rw[aq h2,ak,if_neg h2]
  by_cases h7:op=7
  ·rw[be h7,aE,if_pos h7]
  ·rw[aq h7,ak,if_neg h7]
theorem DC {op a b f:Int}{n:Nat}(hn:cl (n:Int)=true)(ha:I64 a)(hb:I64 b):ja ((op,(n:Int),a,b,f,()),())=some (((xY op n a b f).1,(xY op n a b f).2,()),()):=by
 unfold ja xY
 dsimp only
 have hf:cy .i64 f 1=(((f%2).toNat:Nat):Int):=wu f
 have hc:(f%2).toNat<=1:=by omega
 have add0:=lU (a:=a) (b:=b) (c:=0) false hn (by decide)
 have addc:=lU (a:=a) (b:=b) (c:=(f%2).toNat) false hn hc
 have sub0:=lU (a:=a) (b:=b) (c:=0) true hn (by decide)
 have subc:=lU (a:=a) (b:=b) (c:=(f%2).toNat) true hn hc
 rw[iD]at add0 addc
 rw[if_pos rfl]at sub0 subc
 have z0:((0:Nat):Int)=0:=rfl
 rw[z0]at add0 sub0
 rw[vE hn ha hb,vE hn ha hb,qP hn ha hb,qP hn ha hb,hf]
 by_cases h1:op=1
 ·rw[be h1,aE,if_pos h1,add0,aa]
 rw[aq h1,ak,if_neg h1]
 by_cases h3:op=3
 ·rw[be h3,aE,if_pos h3,addc,aa]
 rw[aq h3,ak,if_neg h3]
 by_cases h6:op=6
 ·rw[be h6,aE,if_pos h6,sub0,aa]
 rw[aq h6,ak,if_neg h6]
 by_cases h4:op=4
 ·rw[be h4,aE,if_pos h4,subc,aa]
 rw[aq h4,ak,if_neg h4]
 by_cases h8:op=8
 ·rw[be h8,aE,if_pos h8,sub0,aa,bw ha n hn,aa]
 rw[aq h8,ak,if_neg h8]
 by_cases h10:op=10
 ·rw[be h10,aE,if_pos h10,bw ha n hn,aa,oJ (v:=cy .i64 a b) hn (au _),aa]
  have e:=t7 (v:=cy .i64 a b) (w:=cy .i64 (bW a n) (bW b n)) hn (au _) (au _) (AI (op:=0) hn ha hb).1.symm
  dsimp only
  rw[e]
 rw[aq h10,ak,if_neg h10,Bm,aa]
 dsimp only
 rw[bw (nD ..) n hn,aa,oJ hn (nD ..),aa]
 dsimp only
 rw[xK hn ha hb,<-HA hn (nD op a b),xK hn ha hb]
theorem not_low {a:Int}{n:Nat}(hn:cl (n:Int)=true)(ha:I64 a):bW (xQ .i64 a) n=bW (xQ .i64 (bW a n)) n:=by
 have hi:∀v,I64 (xQ .i64 v):=fun v=>ow ..
 refine wQ hn (hi _) (hi _) ?_
 obtain⟨K,hK⟩:∃K,K=uns (-1):=⟨_,rfl⟩
 have hu:∀v,uns (xQ .i64 v)=K ^^^uns v:=fun v=>by
  rw[hK]
  exact qR (-1) v
 unfold ch
 rw[hu,hu,Nat.xor_mod_two_pow,Nat.xor_mod_two_pow,cz ha hn]
 unfold ch
 rw[Nat.mod_mod]
theorem DD {op a f:Int}{n:Nat}(hn:cl (n:Int)=true)(ha:I64 a):jc ((op,(n:Int),a,f,()),())=some (((y4 op n a f).1,(y4 op n a f).2,()),()):=by
 unfold jc y4
 dsimp only
 have neg:=lU (a:=0) (b:=a) (c:=0) true hn (by decide)
 have inc:=fun l=>lU (a:=a) (b:=1) (c:=0) l hn (by decide)
 rw[if_pos rfl,show((0:Nat):Int)=0 from rfl]at neg
 have l1:bW 1 n=1:=(yO hn).1
 have l0:bW 0 n=0:=(DO hn).1
 have i1:I64 1:=by unfold I64;omega
 have i0:I64 0:=by unfold I64;omega
 have e1:=qP (c:=0) hn i0 ha
 have e2:=qP (c:=0) hn ha i1
 have e3:=vE (c:=0) hn ha i1
 rw[l0]at e1
 rw[l1]at e2 e3
 rw[e1,e2,e3]
 by_cases h11:op=11
 ·rw[be h11,aE,if_pos h11,bw (v:=xQ .i64 a) (ow ..) n hn,aa]
  dsimp only
  rw[not_low hn ha]
 rw[aq h11,ak,if_neg h11]
 by_cases h12:op=12
 ·rw[be h12,aE,if_pos h12,neg,aa]
 rw[aq h12,ak,if_neg h12]
 have hI:cj (((n:Int),a,1,0,eqI op 19,()),())=_:=inc (eqI op 19)
 rw[hI,aa]
 by_cases h19:op=19
 ·rw[be h19,if_pos h19,if_pos rfl]
  rfl
 ·rw[aq h19,if_neg h19,iD]
  rfl
theorem iA (x:Int):I64 (aj .i64 x):=au _
theorem xorB (v w:Int)(k j:Nat):eqI (rB .i64 ((uns v/2^k%2:Nat):Int) ((uns w/2^j%2:Nat):Int)) 1=(ma v k != ma w j):=by
 rw[<-Fm v k,<-Fm w j]
 rcases qn (uns v) k with h|h<;>rcases qn (uns w) j with g|g<;>rw[h,g]<;>rfl
theorem topU {a:Int}{n:Nat}(h1:1<=n):ch a n/2^(8*n-1)=uns a/2^(8*n-1)%2:=by
 unfold ch
 have h:2^(8*n)=2^(8*n-1)*2:=by rw[<-Nat.pow_succ,show(8*n-1).succ=8*n by omega]
 rw[h,Nat.mod_mul_right_div_self]
theorem lowbit {a:Int}{n:Nat}(h1:1<=n):ch a n%2=uns a/2^0%2:=by
 unfold ch
 rw[Nat.pow_zero,Nat.div_one]
 exact Nat.mod_mod_of_dvd _ (by
  have:=Nat.pow_dvd_pow 2 (show 1<=8*n by omega)
  exact this)
theorem AA {a:Int}{n:Nat}(hn:cl (n:Int)=true):uns (bW (aj .i64 (dE .u64 (aj .u64 a) 1)) n)=(2*ch a n)%2^(8*n):=by
 obtain⟨h1,h8⟩:=dM hn
 rw[cz (iA _) hn,eI]
 unfold ch aj
 rw[b9,show(1:Int)=((1:Nat):Int)from rfl,Ij (by decide),fe (Nat.mod_lt _ (by decide))]
 have hd:2^(8*n)∣18446744073709551616:=Nat.pow_dvd_pow 2 (show 8*n<=64 by omega)
 rw[Nat.mod_mod_of_dvd _ hd,Nat.pow_one,Nat.mul_comm (uns a) 2]
 rw[Nat.mul_mod 2 (uns a%2^(8*n)),Nat.mod_mod,<-Nat.mul_mod]
theorem AC {a:Int}{n:Nat}(hn:cl (n:Int)=true)(ha:I64 a):cu .u64 (aj .u64 (bW a n)) 1=((ch a n/2:Nat):Int):=by
 rw[eI,cz ha hn,show(1:Int)=((1:Nat):Int)from rfl,BL (by decide),Nat.pow_one]
theorem z7 {a:Int}{n:Nat}(h1:1<=n):ch a n/2<2^(8*n-1):=by
 have h:=gP a n
 rw[show 8*n=8*n-1+1 by omega,Nat.pow_succ]at h
 generalize ch a n=u at*
 omega
theorem oO {op:Int}{n:Nat}(hn:cl (n:Int)=true){a v:Int}(hv:I64 v)(h:uns v=wY op (8*n) (ch a n)):v=jR op n a:=by
 refine j8 hv (gC ..) ?_
 rw[h,k7 _ hn]
theorem Bl {op a f:Int}{n:Nat}(hop:20<=op/\op<=24)(hn:cl (n:Int)=true)(ha:I64 a):
  ij ((op,(n:Int),a,f,()),())=some (((rU op n a f).1,(rU op n a f).2,()),()):=by
 obtain⟨h1,h8⟩:=dM hn
 unfold ij
 dsimp only
 have e8:aT .i64 (bK .i64 8 (n:Int)) 1=((8*n-1:Nat):Int):=by
  rw[cY (a:=8),bn];omega
 have e7:aT .i64 ((8*n-1:Nat):Int) 1=((8*n-2:Nat):Int):=by
  rw[bn];omega
 have w8:aj .u64 ((8*n-1:Nat):Int)=((8*n-1:Nat):Int):=cH
 have b0:aO ((a,0,()),())=some (((uns a/2^0%2:Nat):Int),()):=CB a 0 (by decide)
 rw[e8,CB _ _ (by omega),aa,b0,aa]
 dsimp only
 have hwb:∀x:Nat,x%2=x->aj .u64 (x:Int)=(x:Int):=fun x hx=>cH
 refine(Ret.bnd (Q:=fun y=>∃c o:Int,y=Sum.inl ((op,(n:Int),f,jR op n a,c,o,()),())/\eqI c 1=yY op n a/\eqI o 1=yZ op n a) ?_ ?_).eq
 ·by_cases h20:op=20
  ·subst h20
   rw[be rfl,aE,bw (iA _) n hn,aa]
   dsimp only
   have hV:ior .i64 (bW (aj .i64 (dE .u64 (aj .u64 a) 1)) n) ((uns a/2^(8*n-1)%2:Nat):Int)=jR 20 n a:=by
    refine oO hn (lA ..) ?_
    rw[mX,AA hn,fe (by have:=qn (uns a) (8*n-1);omega)]
    unfold wY
    rw[if_pos rfl,topU h1]
    have hev:(2*ch a n)%2^(8*n)%2=0:=by
     rw[Nat.mod_mod_of_dvd _ (by
      have:=Nat.pow_dvd_pow 2 (show 1<=8*n by omega)
      exact this)]
     omega
    have:=H9 hev (decide (uns a/2^(8*n-1)%2=1))
    rcases qn (uns a) (8*n-1)with h|h
    ·rw[h]at this|-;simp
    ·rw[h]at this|-;simpa using this
   rw[hV,CB _ _ (by omega),aa]
   exact Ret.some ⟨_,_,rfl,by rw[Fm];rfl,by rw[xorB];rfl⟩
  rw[aq h20,ak]
  refine Ret.bnd (Q:=fun y=>∃c o:Int,y=Sum.inl ((op,(n:Int),f,jR op n a,c,o,()),())/\eqI c 1=yY op n a/\eqI o 1=yZ op n a) ?_ (by rintro _ ⟨c,o,rfl,g⟩;rw[ah];exact Ret.some ⟨c,o,rfl,g⟩)
  by_cases h22:op=22
  ·subst h22
   rw[be rfl,aE,bw (iA _) n hn,aa]
   dsimp only
   have hV:bW (aj .i64 (dE .u64 (aj .u64 a) 1)) n=jR 22 n a:=by
    refine oO hn (eM (iA _) hn) ?_
    rw[AA hn]
    rfl
   rw[hV,CB _ _ (by omega),aa]
   exact Ret.some ⟨_,_,rfl,by rw[Fm];rfl,by rw[xorB];rfl⟩
  rw[aq h22,ak]
  refine Ret.bnd (Q:=fun y=>∃c o:Int,y=Sum.inl ((op,(n:Int),f,jR op n a,c,o,()),())/\eqI c 1=yY op n a/\eqI o 1=yZ op n a) ?_ (by rintro _ ⟨c,o,rfl,g⟩;rw[ah];exact Ret.some ⟨c,o,rfl,g⟩)
  have hjoin:∀x:Nat,x<=1->aj .i64 (ior .u64 (cu .u64 (aj .u64 (bW a n)) 1) (dE .u64 (aj .u64 (x:Int)) ((8*n-1:Nat):Int)))=IntKind.wrap .i64 ((ch a n/2+2^(8*n-1)*x:Nat):Int)/\uns (IntKind.wrap .i64 ((ch a n/2+2^(8*n-1)*x:Nat):Int))=ch a n/2+x*2^(8*n-1):=fun x hx=>by
   refine⟨?_,?_⟩
   ·rw[AC hn ha,cH,bitOr (z7 h1) hx (by omega)]
    rfl
   ·rw[b9,Nat.mul_comm x,fe]
    have hp:2^(8*n-1+1)<=2^64:=Nat.pow_le_pow_right (by decide) (by omega)
    have:=z7 (a:=a) h1
    have:2^(8*n-1)*x<=2^(8*n-1)*1:=Nat.mul_le_mul_left _ hx
    rw[Nat.pow_succ]at hp
    omega
  by_cases h21:op=21
  ·subst h21
   rw[be rfl,aE,bw ha n hn,aa]
   dsimp only
   obtain⟨j1,j2⟩:=hjoin (uns a/2^0%2) (by omega)
   rw[w8,ae (fu),j1]
   have hV:IntKind.wrap .i64 ((ch a n/2+2^(8*n-1)*(uns a/2^0%2):Nat):Int)=jR 21 n a:=by
    refine oO hn (au _) ?_
    rw[j2,<-lowbit h1]
    rfl
   rw[hV,CB _ _ (by omega),aa,e7,CB _ _ (by omega),aa]
   exact Ret.some ⟨_,_,rfl,by rw[Fm];rfl,by rw[xorB];rfl⟩
  rw[aq h21,ak]
  refine Ret.bnd (Q:=fun y=>∃c o:Int,y=Sum.inl ((op,(n:Int),f,jR op n a,c,o,()),())/\eqI c 1=yY op n a/\eqI o 1=yZ op n a) ?_ (by rintro _ ⟨c,o,rfl,g⟩;rw[ah];exact Ret.some ⟨c,o,rfl,g⟩)
  by_cases h23:op=23
  ·subst h23
   rw[be rfl,aE,bw ha n hn,aa]
   dsimp only
   have hV:aj .i64 (cu .u64 (aj .u64 (bW a n)) 1)=jR 23 n a:=by
    refine oO hn (au _) ?_
    rw[AC hn ha]
    unfold aj
    rw[b9,fe]
    ·rfl
    ·have:=eJ a
     have:ch a n<=uns a:=Nat.mod_le _ _
     omega
   rw[hV]
   exact Ret.some ⟨_,_,rfl,by rw[Fm];rfl,by rw[Fm];rfl⟩
  ·have h24:op=24:=by omega
   subst h24
   rw[aq (by decide),ak,bw ha n hn,aa]
   dsimp only
   obtain⟨j1,j2⟩:=hjoin (uns a/2^(8*n-1)%2) (by omega)
   rw[w8,ae (fu),j1]
   have hV:IntKind.wrap .i64 ((ch a n/2+2^(8*n-1)*(uns a/2^(8*n-1)%2):Nat):Int)=jR 24 n a:=by
    refine oO hn (au _) ?_
    rw[j2,<-topU h1]
    rfl
   rw[hV]
   exact Ret.some ⟨_,_,rfl,by rw[Fm];rfl,rfl⟩
 rintro _ ⟨c,o,rfl,hC,hO⟩
 rw[ah]
 dsimp only[p5]
 have hbr:br (aP (eqI op 20)) (some (aP (eqI op 21))) (some false)=some (decide (¬(op=20\/op=21))):=by
  by_cases a8:op=20
  ·rw[be a8,bD,ak,dF]
  ·rw[aq a8,bS,aE]
   by_cases a10:op=21
   ·rw[be a10,bD,dF]
   ·rw[aq a10,bS,dT]
 rw[hbr,aa]
 refine Ret.bnd (Q:=fun y=>y=Sum.inl ((jR op n a,c,o,Bw op n a f,()),())) ?_ ?_
 ·unfold Bw
  by_cases hk:op=20\/op=21
  ·rw[dF,ak,if_pos hk]
   exact Ret.some rfl
  ·rw[decide_eq_true hk,aE,if_neg hk,oJ hn (gC ..),aa]
   exact Ret.some rfl
 rintro _ rfl
 rw[ah]
 dsimp only
 rw[lr,aa,lr,aa,hC,hO]
 exact Ret.some rfl
theorem Bg (op:Int)(n k:Nat)(x:Int×Int):rA op n (k+1) x=rA op n k (rU op n x.1 x.2):=rfl
theorem yL {op a k f:Int}{n:Nat}(hop:20<=op/\op<=24)(hn:cl (n:Int)=true)(ha:I64 a):
  gn ((op,(n:Int),a,k,f,()),())=some (((jU op n a k f).1,(jU op n a k f).2,()),()):=by
 obtain⟨h1,h8⟩:=dM hn
 unfold gn jU
 dsimp only
 have hk:=bt k
 have hku:=eJ k
 have hcnt:∀m:Int,m=64\/m=32->aj .i64 (fv (aj .u64 k) m)=k%m:=fun m hm=>by
  rw[eI,dH]
  have:((uns k:Nat):Int)%m=k%m:=by
   rw[hk,show(2:Int)^64=18446744073709551616 from rfl]
   rcases hm with rfl|rfl<;>omega
  rw[this]
  exact dD (by unfold I64;rcases hm with rfl|rfl<;>omega)
 refine(Ret.bnd (Q:=fun y=>y=Sum.inl ((op,(n:Int),a,f,((zh n k:Nat):Int),()),())) ?_ ?_).eq
 ·unfold zh
  by_cases h:n=8
  ·rw[be (show(n:Int)=8 by omega),aE,hcnt 64 (.inl rfl),if_pos h]
   exact Ret.some (by rw[show k%64=(((k%64).toNat:Nat):Int)by omega];rfl)
  ·rw[aq (show(n:Int)≠8 by omega),ak,hcnt 32 (.inr rfl),if_neg h]
   exact Ret.some (by rw[show k%32=(((k%32).toNat:Nat):Int)by omega];rfl)
 rintro _ rfl
 rw[ah]
 dsimp only
 rw[bw ha n hn,aa]
 have hN:zh n k<64:=by unfold zh;split<;>omega
 obtain⟨N,hNe⟩:∃N,N=zh n k:=⟨_,rfl⟩
 rw[<-hNe]at hN|-
 refine Ret.iter (fun x=>∃(i:Nat) (v g:Int),i<=N/\I64 v/\rA op n (N-i) (v,g)=rA op n N (bW a n,f)/\x=((op,(n:Int),g,(N:Int),v,(i:Int),()),())) (fun x=>N-(p5 x.1).toNat) ?_ F _ ⟨0,_,f,by omega,eM ha hn,rfl,rfl⟩ (by unfold F;dsimp only[p5];omega)
 rintro _ rec ⟨i,v,g,hi,hv,he,rfl⟩ hrec
 dsimp only[p5]at hrec|-
 by_cases h:i<N
 ·rw[ae (fP),Bl hop hn hv,aa]
  dsimp only
  rw[aH]
  exact hrec _ ⟨i+1,_,_,by omega,gC ..,by
   rw[show N-i=N-(i+1)+1 by omega,Bg]at he
   exact he,rfl⟩ (by dsimp only;omega)
 ·obtain rfl:i=N:=by omega
  rw[ag (fL)]
  rw[Nat.sub_self]at he
  refine Ret.some ?_
  rw[<-he]
  rfl
theorem Gm (x:Int):dE .u64 x 1=x*2%18446744073709551616:=AB x 1 (by decide)
theorem Dz (x:Int):cu .u64 x 63=x/9223372036854775808:=so x 63 (by decide)
theorem Bj {a b:Nat}(ha:a<18446744073709551616)(hb:b<18446744073709551616):
  eu (((a:Int),(b:Int),()),())=some ((((a*b/18446744073709551616:Nat):Int),((a*b%18446744073709551616:Nat):Int),()),()):=by
 unfold eu
 dsimp only
 refine(Ret.iter (fun x=>∃(k:Nat) (h l:Int),k<=64/\WideInv a b k h l/\x=(((a:Int),(b:Int),h,l,((k:Int)-1),()),())) (fun x=>(x.1.2.2.2.2.1+1).toNat) ?_ F _ ⟨64,0,0,by omega,WideInv.init hb,rfl⟩ (by unfold F;dsimp only;omega)).eq
 rintro _ rec ⟨k,h,l,hk,hw,rfl⟩ hrec
 dsimp only at hrec|-
 cases k with
 |zero=>
  rw[ag (kb)]
  obtain⟨e1,e2⟩:=hw.fin
  exact Ret.some (by rw[e1,e2])
 |succ k=>
  have ek:((k+1:Nat):Int)-1=(k:Int):=by omega
  rw[ek]at hrec|-
  have hwk:aj .u64 (k:Int)=(k:Int):=cH
  rw[ae (fu),hwk,ae (fu),BL (by omega),dH (Int.natCast_nonneg _),Gm,Gm,Dz]
  have hbit:((b/2^k:Nat):Int)%2=((b/2^k%2:Nat):Int):=(Int.natCast_emod _ 2).symm
  rw[hbit,Cr,Cr,Cr]
  have hx:(h*2%18446744073709551616+l/9223372036854775808)%18446744073709551616=(h*2+l/9223372036854775808)%18446744073709551616:=by omega
  have hx1:((h*2%18446744073709551616+l/9223372036854775808)%18446744073709551616+1)%18446744073709551616=((h*2+l/9223372036854775808)%18446744073709551616+1)%18446744073709551616:=by omega
  refine Ret.bnd (Q:=fun y=>∃h' l',WideInv a b k h' l'/\y=Sum.inl (((a:Int),(b:Int),h',l',(k:Int),()),())) ?_ ?_
  ·rcases qn b k with h0|h0
   ·rw[h0,ag (by rfl)]
    exact Ret.some ⟨_,_,hw.step0 ha hb h0,by rw[hx]⟩
   ·rw[h0,ae (by rfl)]
    have hst:=hw.step1 ha hb h0 (h':=(h*2+l/9223372036854775808)%18446744073709551616) (l':=l*2%18446744073709551616) rfl rfl
    refine Ret.bnd (Q:=fun y=>∃h' l',WideInv a b k h' l'/\y=Sum.inl (((a:Int),(b:Int),h',l',(k:Int),()),())) ?_ (by rintro _ ⟨h',l',g,rfl⟩;rw[ah];exact Ret.some ⟨h',l',g,rfl⟩)
    by_cases hc:(l*2%18446744073709551616+(a:Int))%18446744073709551616<l*2%18446744073709551616
    ·rw[ae (fP hc)]
     exact Ret.some ⟨_,_,hst.1 hc,by rw[hx1]⟩
    ·rw[ag (fL hc)]
     exact Ret.some ⟨_,_,hst.2 hc,by rw[hx]⟩
  rintro _ ⟨h',l',hw',rfl⟩
  rw[ah]
  dsimp only
  rw[bn]
  exact hrec _ ⟨k,h',l',by omega,hw',rfl⟩ (by dsimp only;omega)
theorem QuoInv.q_lt {hi lo d k q r:Nat}(H:QuoInv hi lo d k q r)(h:hi<d)(hl:lo<18446744073709551616)(hk:k<=64):q<2^(64-k):=by
 have hP:2^k*2^(64-k)=18446744073709551616:=by rw[<-Nat.pow_add,show k+(64-k)=64 by omega]
 have h1:lo/2^k<2^(64-k):=Nat.div_lt_of_lt_mul (by rw[hP];exact hl)
 have h2:(hi+1)*2^(64-k)<=d*2^(64-k):=Nat.mul_le_mul_right _ h
 rw[Nat.add_mul,Nat.one_mul]at h2
 have h3:=H.e
 refine Nat.lt_of_mul_lt_mul_right (a:=d) ?_
 rw[Nat.mul_comm (2^(64-k)) d]
 generalize hi*2^(64-k)=A at*
 generalize d*2^(64-k)=B at*
 generalize q*d=C at*
 omega
theorem Ej {r b d r2:Int}(r0:0<=r)(hr:r<d)(hd:d<18446744073709551616)(b0:b=0\/b=1)(e:r2=(r*2%18446744073709551616+b)%18446744073709551616):
  (r/9223372036854775808=1->d<=r*2+b)/\(¬r/9223372036854775808=1->(d<=r2↔d<=r*2+b))/\(d<=r*2+b->(r2-d)%18446744073709551616=r*2+b-d)/\(r*2+b<d->r2=r*2+b):=by
 refine⟨?_,?_,?_,?_⟩<;>omega
theorem wG {hi lo d:Nat}(h:hi<d)(hd:d<18446744073709551616)(hlo:lo<18446744073709551616):
  fE (((hi:Int),(lo:Int),(d:Int),()),())=some (((((hi*18446744073709551616+lo)/d:Nat):Int),(((hi*18446744073709551616+lo)%d:Nat):Int),()),()):=by
 unfold fE
 dsimp only
 refine(Ret.iter (fun x=>∃k q r:Nat,k<=64/\QuoInv hi lo d k q r/\x=(((lo:Int),(d:Int),(q:Int),(r:Int),((k:Int)-1),()),())) (fun x=>(x.1.2.2.2.2.1+1).toNat) ?_ F _ ⟨64,0,hi,by omega,QuoInv.init h hlo,rfl⟩ (by unfold F;dsimp only;omega)).eq
 rintro _ rec ⟨k,q,r,hk,hw,rfl⟩ hrec
 dsimp only at hrec|-
 cases k with
 |zero=>
  rw[ag (kb)]
  obtain⟨e1,e2⟩:=hw.fin
  exact Ret.some (by rw[e1,e2])
 |succ k=>
  have ek:((k+1:Nat):Int)-1=(k:Int):=by omega
  rw[ek]at hrec|-
  have hwk:aj .u64 (k:Int)=(k:Int):=cH
  obtain⟨st0,st1⟩:=hw.step (by omega)
  have hrd:=hw.lt
  have hbit:((lo/2^k:Nat):Int)%2=((lo/2^k%2:Nat):Int):=(Int.natCast_emod _ 2).symm
  obtain⟨b,hb⟩:∃b,b=lo/2^k%2:=⟨_,rfl⟩
  rw[<-hb]at st0 st1 hbit
  have hb01:b=0\/b=1:=by rw[hb];exact qn lo k
  rw[ae (fu),hwk,ae (fu),BL (by omega),dH (Int.natCast_nonneg _),hbit,Dz,Gm,Gm,Cr,Cr,subU]
  obtain⟨r2,hr2⟩:∃r2:Int,r2=((r:Int)*2%18446744073709551616+(b:Int))%18446744073709551616:=⟨_,rfl⟩
  rw[<-hr2]
  obtain⟨a1,a2,a3,a4⟩:=Ej (r:=(r:Int)) (b:=(b:Int)) (d:=(d:Int)) (by omega) (by omega) (by omega) (by omega) hr2
  have hcond:br (eqI ((r:Int)/9223372036854775808) 1) (some true) (some (leI (d:Int) r2))=some (decide (d<=r*2+b)):=by
   by_cases g:(r:Int)/9223372036854775808=1
   ·have:=a1 g
    rw[be g,aE,dT]
   ·have:=a2 g
    rw[aq g,ak]
    by_cases g2:d<=r*2+b
    ·rw[decide_eq_true g2,fu (this.2 (by omega))]
    ·rw[decide_eq_false g2,kb (fun z=>g2 (by have:=this.1 z;omega))]
  rw[hcond,aa]
  have hp:2^(64-k)<=2^64:=Nat.pow_le_pow_right (by decide) (by omega)
  refine Ret.bnd (Q:=fun y=>∃q' r':Nat,QuoInv hi lo d k q' r'/\y=Sum.inl (((lo:Int),(d:Int),(q':Int),(r':Int),(k:Int),()),())) ?_ ?_
  ·by_cases g2:d<=r*2+b
   ·have hq:=(st1 g2).q_lt h hlo (by omega)
    rw[decide_eq_true g2,aE,a3 (by omega)]
    refine Ret.some ⟨q*2+1,r*2+b-d,st1 g2,?_⟩
    rw[show((q:Int)*2%18446744073709551616+1)%18446744073709551616=((q*2+1:Nat):Int)by omega,show(r:Int)*2+(b:Int)-(d:Int)=((r*2+b-d:Nat):Int)by omega]
   ·have hq:=(st0 (by omega)).q_lt h hlo (by omega)
    rw[decide_eq_false g2,ak,a4 (by omega)]
    refine Ret.some ⟨q*2,r*2+b,st0 (by omega),?_⟩
    rw[show((q:Int)*2%18446744073709551616)=((q*2:Nat):Int)by omega,show(r:Int)*2+(b:Int)=((r*2+b:Nat):Int)by omega]
  rintro _ ⟨q',r',hw',rfl⟩
  rw[ah]
  dsimp only
  rw[bn]
  exact hrec _ ⟨k,q',r',by omega,hw',rfl⟩ (by dsimp only;omega)
theorem inotU {h:Int}(h0:0<=h)(h1:h<18446744073709551616):xQ .u64 h=18446744073709551615-h:=by
 unfold xQ rB
 rw[fg]
 have e:(BitVec.ofInt IntKind.u64.bits (if IntKind.u64.signed=true then -1 else IntKind.u64.max)^^^BitVec.ofInt IntKind.u64.bits h).toNat=(18446744073709551615-h).toNat:=by
  have e1:(BitVec.ofInt IntKind.u64.bits (if IntKind.u64.signed=true then -1 else IntKind.u64.max))=BitVec.allOnes 64:=by rfl
  have e2:(BitVec.ofInt 64 h).toNat=h.toNat:=by rw[BitVec.toNat_ofInt];omega
  rw[e1]
  show(BitVec.allOnes 64 ^^^BitVec.ofInt 64 h).toNat=_
  rw[BitVec.allOnes_xor,BitVec.toNat_not,e2]
  omega
 rw[e];omega
theorem pz {v:Int}(hv:I64 v):dJ ((v,()),())=some (((v.natAbs:Nat):Int),())/\v.natAbs<18446744073709551616:=by
 unfold I64 at hv
 refine⟨?_,by omega⟩
 unfold dJ
 dsimp only
 have hu:=bt v
 rw[show(2:Int)^64=18446744073709551616 from rfl]at hu
 rw[eI,hu]
 by_cases h:v<0
 ·rw[fP h,aE,subU]
  congr 2;omega
 ·rw[fL h,ak]
  congr 2;omega
theorem neg128 {h l p:Int}(h0:0<=h)(l0:0<=l)(l1:l<18446744073709551616)(h1:h<18446744073709551616)(e:h*18446744073709551616+l=p):
  ((-l)%18446744073709551616=0->(18446744073709551615-h+1)%18446744073709551616*18446744073709551616+(-l)%18446744073709551616=(-p)%340282366920938463463374607431768211456)/\
  (¬(-l)%18446744073709551616=0->(18446744073709551615-h)*18446744073709551616+(-l)%18446744073709551616=(-p)%340282366920938463463374607431768211456):=by
 constructor<;>intro g<;>omega
theorem uT {X Y:Int}(sg:Bool)(hX:I64 X)(hY:I64 Y):∃h l:Int,eZ ((X,Y,sg,()),())=some ((h,l,()),())/\0<=h/\h<18446744073709551616/\0<=l/\l<18446744073709551616/\
  h*18446744073709551616+l=(if sg=true then X*Y else((uns X:Nat):Int)*((uns Y:Nat):Int))%340282366920938463463374607431768211456:=by
 have hwide:∀a b:Nat,a<18446744073709551616->b<18446744073709551616->∃h l:Int,eu (((a:Int),(b:Int),()),())=some ((h,l,()),())/\0<=h/\h<18446744073709551616/\0<=l/\l<18446744073709551616/\h*18446744073709551616+l=(a:Int)*(b:Int):=fun a b ha hb=>by
  refine⟨_,_,Bj ha hb,?_⟩
  have hp:a*b<18446744073709551616*18446744073709551616:=Nat.mul_lt_mul'' ha hb
  have e:(a:Int)*(b:Int)=((a*b:Nat):Int):=by simp
  have hp':((a*b:Nat):Int)<340282366920938463463374607431768211456:=Int.ofNat_lt.2 hp
  rw[e,Int.natCast_ediv,Int.natCast_emod]
  have h0:0<=((a*b:Nat):Int):=Int.natCast_nonneg _
  generalize ((a*b:Nat):Int)=p at*
  show 0<=p/18446744073709551616/\p/18446744073709551616<18446744073709551616/\0<=p%18446744073709551616/\p%18446744073709551616<18446744073709551616/\p/18446744073709551616*18446744073709551616+p%18446744073709551616=p
  omega
 have hbig:∀h l p:Int,0<=h->h<18446744073709551616->0<=l->l<18446744073709551616->h*18446744073709551616+l=p->h*18446744073709551616+l=p%340282366920938463463374607431768211456:=fun h l p a b c d e=>by omega
 unfold eZ
 dsimp only
 cases sg with
 |false=>
  obtain⟨h,l,e,a1,a2,a3,a4,a5⟩:=hwide _ _ (eJ X) (eJ Y)
  rw[show aP false=true from rfl,aE,eI,eI,e,aa,iD]
  exact⟨h,l,rfl,a1,a2,a3,a4,hbig _ _ _ a1 a2 a3 a4 a5⟩
 |true=>
  obtain⟨s1,l1⟩:=pz hX
  obtain⟨s2,l2⟩:=pz hY
  obtain⟨h,l,e,a1,a2,a3,a4,a5⟩:=hwide _ _ l1 l2
  rw[show aP true=false from rfl,ak,s1,aa,s2,aa,if_pos rfl]
  dsimp only
  rw[e,aa]
  dsimp only
  have hne:aP (eqB (ltI X 0) (ltI Y 0))=(decide (X<0) != decide (Y<0)):=by
   unfold ltI
   cases decide (X<0)<;>cases decide (Y<0)<;>rfl
  rw[hne]
  have habs:∀Z:Int,(Z.natAbs:Int)=if Z<0 then -Z else Z:=fun Z=>by split<;>omega
  rw[habs X,habs Y]at a5
  by_cases hd:(decide (X<0) != decide (Y<0))=true
  ·rw[hd,aE,subU,inotU a1 a2,Cr]
   have hp:h*18446744073709551616+l= -(X*Y):=by
    rw[a5]
    by_cases x0:X<0
    ·by_cases y0:Y<0
     ·rw[decide_eq_true x0,decide_eq_true y0]at hd;cases hd
     ·rw[if_pos x0,if_neg y0,Int.neg_mul]
    ·by_cases y0:Y<0
     ·rw[if_neg x0,if_pos y0,Int.mul_neg]
     ·rw[decide_eq_false x0,decide_eq_false y0]at hd;cases hd
   obtain⟨n1,n2⟩:=neg128 a1 a3 a4 a2 hp
   rw[Int.neg_neg]at n1 n2
   rw[Int.zero_sub]
   by_cases hz:(-l)%18446744073709551616=0
   ·rw[be hz,aE,aa,ah,aa,ah]
    exact⟨_,_,rfl,by omega,by omega,by omega,by omega,n1 hz⟩
   ·rw[aq hz,ak,aa,ah,aa,ah]
    exact⟨_,_,rfl,by omega,by omega,by omega,by omega,n2 hz⟩
  ·rw[Bool.eq_false_iff.2 hd,ak,aa,ah]
   have hp:h*18446744073709551616+l=X*Y:=by
    rw[a5]
    by_cases x0:X<0
    ·by_cases y0:Y<0
     ·rw[if_pos x0,if_pos y0,Int.neg_mul_neg]
     ·rw[decide_eq_true x0,decide_eq_false y0]at hd;exact absurd rfl hd
    ·by_cases y0:Y<0
     ·rw[decide_eq_false x0,decide_eq_true y0]at hd;exact absurd rfl hd
     ·rw[if_neg x0,if_neg y0]
   exact⟨h,l,rfl,a1,a2,a3,a4,hbig _ _ _ a1 a2 a3 a4 hp⟩
theorem zW {sg:Bool}{n:Nat}(hn:cl (n:Int)=true){a:Int}(ha:I64 a):I64 (th sg n a):=by
 obtain⟨h1,h8⟩:=dM hn
 unfold th
 split
 ·exact iF _ (by omega) _
 ·exact eM ha hn
theorem F4 {sg:Bool}{n:Nat}(hn:cl (n:Int)=true){a b:Int}(ha:I64 a)(hb:I64 b):
  (if sg=true then th sg n a*th sg n b else((uns (th sg n a):Nat):Int)*((uns (th sg n b):Nat):Int))=nG sg n a*nG sg n b:=by
 unfold th nG
 cases sg with
 |true=>simp only[if_true]
 |false=>
  rw[iD,iD,iD,iD,iD,cz ha hn,cz hb hn]
theorem nL {op a b f:Int}{n:Nat}(hn:cl (n:Int)=true)(ha:I64 a)(hb:I64 b):
  cQ ((op,(n:Int),a,b,f,()),())=some (((rH op n a b f).1,(rH op n a b f).2.1,(rH op n a b f).2.2,()),()):=by
 obtain⟨h1,h8⟩:=dM hn
 unfold cQ
 dsimp only
 obtain⟨sg,hsg⟩:∃sg:Bool,sg=decide (op≠13):=⟨_,rfl⟩
 have heq:aP (eqI op 13)=sg:=by
  rw[hsg,neI,Bool.eq_iff_iff,bne_iff_ne,decide_eq_true_eq]
 have hsx:∀v,aJ ((v,(n:Int),()),())=some (sx (8*n-1) v,()):=fun v=>by
  rw[gK _ _ (by omega) (by omega),show(8*(n:Int)-1).toNat=8*n-1 by omega]
 rw[heq,bw ha n hn,bw hb n hn,aa,aa]
 refine(Ret.bnd (Q:=fun y=>y=Sum.inl (((n:Int),f,sg,th sg n a,th sg n b,()),())) ?_ ?_).eq
 ·cases sg with
  |true=>
   rw[aE,hsx,hsx,aa,aa]
   exact Ret.some rfl
  |false=>
   rw[ak]
   exact Ret.some rfl
 rintro _ rfl
 rw[ah]
 dsimp only
 obtain⟨h,l,e,a1,a2,a3,a4,a5⟩:=uT sg (zW (sg:=sg) hn ha) (zW (sg:=sg) hn hb)
 rw[F4 hn ha hb]at a5
 rw[e,aa]
 dsimp only
 have hul:∀z:Int,0<=z->z<18446744073709551616->((uns (aj .i64 z):Nat):Int)=z:=fun z z0 z1=>by
  unfold aj
  rw[b9,bt,show(2:Int)^64=18446744073709551616 from rfl];omega
 have hlow:bW (aj .i64 l) n=wT sg n a b:=by
  refine pD hn (au _) ?_
  rw[hul l a3 a4]
  generalize nG sg n a*nG sg n b=p at*
  rcases xS hn with rfl|rfl|rfl|rfl
  ·rw[show(2:Int)^(8*1)=256 from rfl];omega
  ·rw[show(2:Int)^(8*2)=65536 from rfl];omega
  ·rw[show(2:Int)^(8*4)=4294967296 from rfl];omega
  ·rw[show(2:Int)^(8*8)=18446744073709551616 from rfl];omega
 rw[bw (iA l) n hn,aa,hlow]
 dsimp only
 refine Ret.bnd (Q:=fun y=>y=Sum.inl (((n:Int),f,sg,wT sg n a b,og sg n a b,()),())) ?_ ?_
 ·by_cases h8':n=8
  ·subst h8'
   rw[fL,ak]
   have hh:aj .i64 h=og sg 8 a b:=by
    unfold og lJ aj
    refine l5 ?_
    rw[show(2:Int)^(8*8)=18446744073709551616 from rfl]
    generalize nG sg 8 a*nG sg 8 b=p at*
    omega
   rw[hh]
   exact Ret.some rfl
  ·have h3:n=1\/n=2\/n=4:=by rcases xS hn with h|h|h|h<;>omega
   rw[fP,aE,cY (a:=8),cH,ae (fu),show 8*(n:Int)=((8*n:Nat):Int)by omega,so _ _ (by omega),bw (iA _) n hn,aa]
   have hh:bW (aj .i64 (l/2^(8*n))) n=og sg n a b:=by
    refine pD hn (au _) ?_
    have hd0:0<=l/2^(8*n):=Int.ediv_nonneg a3 (Int.le_of_lt (Int.pow_pos (by decide)))
    have hd1:l/2^(8*n)<18446744073709551616:=Int.lt_of_le_of_lt (Int.ediv_le_self _ a3) a4
    rw[hul _ hd0 hd1]
    generalize nG sg n a*nG sg n b=p at*
    rcases h3 with rfl|rfl|rfl
    ·rw[show(2:Int)^(8*1)=256 from rfl];omega
    ·rw[show(2:Int)^(8*2)=65536 from rfl];omega
    ·rw[show(2:Int)^(8*4)=4294967296 from rfl];omega
   rw[hh]
   exact Ret.some rfl
 rintro _ rfl
 rw[ah]
 dsimp only
 refine Ret.bnd (Q:=fun y=>y=Sum.inl ((f,wT sg n a b,og sg n a b,DY sg n a b,()),())) ?_ ?_
 ·unfold DY
  cases sg with
  |true=>
   rw[aE,hsx,hsx,aa,aa,neI]
   exact Ret.some rfl
  |false=>
   rw[ak,neI]
   exact Ret.some rfl
 rintro _ rfl
 rw[ah]
 dsimp only
 rw[lr,aa]
 refine Ret.some ?_
 unfold rH
 rw[<-hsg]
theorem orU {a b:Nat}(ha:a<2^64)(hb:b<2^64):ior .u64 (a:Int) (b:Int)=((a|||b:Nat):Int):=by
 unfold ior
 rw[fg]
 have hh:∀k:Nat,k<2^64->(BitVec.ofInt 64 (k:Int)).toNat=k:=fun k hk=>by
  rw[BitVec.toNat_ofInt]
  have:((k:Int)%((2^64:Nat):Int))=((k%2^64:Nat):Int):=(Int.natCast_emod ..).symm
  rw[this,Int.toNat_natCast,Nat.mod_eq_of_lt hk]
 have e1:(BitVec.ofInt IntKind.u64.bits (a:Int)|||BitVec.ofInt IntKind.u64.bits (b:Int)).toNat=a|||b:=by
  rw[BitVec.toNat_or]
  show(BitVec.ofInt 64 (a:Int)).toNat|||(BitVec.ofInt 64 (b:Int)).toNat=_
  rw[hh _ ha,hh _ hb]
 rw[e1]
 have:a|||b<2^64:=Nat.or_lt_two_pow ha hb
 have h2:((a|||b:Nat):Int)<((2^64:Nat):Int):=Int.ofNat_lt.2 this
 exact Int.emod_eq_of_lt (by omega) h2
theorem joinU {n:Nat}(hn:n=1\/n=2\/n=4){hi lo:Int}(hh:I64 hi)(hl:I64 lo):ior .u64 (dE .u64 (aj .u64 (bW hi n)) ((8*n:Nat):Int)) (aj .u64 (bW lo n))=((nZ n hi lo:Nat):Int):=by
 have hs:cl (n:Int)=true:=by rcases hn with rfl|rfl|rfl<;>rfl
 have hlt:=lE n hi lo
 have h32:2^(16*n)<=2^64:=Nat.pow_le_pow_right (by decide) (by omega)
 have hN:nZ n hi lo<2^64:=Nat.lt_of_lt_of_le hlt h32
 have hH:ch hi n*2^(8*n)<2^64:=Nat.lt_of_le_of_lt (Nat.le_add_right _ _) hN
 have hL:ch lo n<2^64:=Nat.lt_of_le_of_lt (Nat.le_add_left _ _) hN
 rw[eI,eI,cz hh hs,cz hl hs,Ij (by omega),Nat.mod_eq_of_lt hH,orU hH hL]
 unfold nZ
 rw[Nat.mul_comm,Nat.two_pow_add_eq_or_of_lt (gP lo n)]
theorem Bk {n:Nat}{hi lo:Int}(hn:cl (n:Int)=true)(hh:I64 hi)(hl:I64 lo)(sg:Bool):
  ∃h l:Int,ii (((n:Int),hi,lo,sg,()),())=some ((h,l,()),())/\0<=h/\h<18446744073709551616/\0<=l/\l<18446744073709551616/\
   h*18446744073709551616+l=(if oF sg n hi lo<0 then oF sg n hi lo+340282366920938463463374607431768211456 else oF sg n hi lo):=by
 obtain⟨h1,h8⟩:=dM hn
 unfold ii
 dsimp only
 by_cases h8':n=8
 ·subst h8'
  rw[be (by rfl),aE,eI,eI]
  have g1:=eJ hi
  have g2:=eJ lo
  refine⟨_,_,rfl,by omega,by omega,by omega,by omega,?_⟩
  have hN:=CL hi lo
  unfold oF
  rw[show(2:Nat)^(16*8-1)=170141183460469231731687303715884105728 from rfl,show(2:Int)^(16*8)=340282366920938463463374607431768211456 from rfl]
  have hlt:nZ 8 hi lo<340282366920938463463374607431768211456:=lE 8 hi lo
  by_cases hc:sg=true/\170141183460469231731687303715884105728<=nZ 8 hi lo
  ·rw[if_pos hc];omega
  ·rw[if_neg hc];omega
 ·have h3:n=1\/n=2\/n=4:=by rcases xS hn with h|h|h|h<;>omega
  have e8:bK .i64 8 (n:Int)=((8*n:Nat):Int):=by rw[cY (a:=8)];omega
  have e16:bK .i64 16 (n:Int)=((16*n:Nat):Int):=by rw[cY (a:=16)];omega
  have w8:aj .u64 ((8*n:Nat):Int)=((8*n:Nat):Int):=cH
  have w16:aj .u64 ((16*n:Nat):Int)=((16*n:Nat):Int):=cH
  have e7:aT .i64 ((8*n:Nat):Int) 1=((8*n-1:Nat):Int):=by rw[bn];omega
  have hlt:=lE n hi lo
  have h32:2^(16*n)<=2^64:=Nat.pow_le_pow_right (by decide) (by omega)
  have hN:nZ n hi lo<2^64:=Nat.lt_of_lt_of_le hlt h32
  rw[aq (show(n:Int)≠8 by omega),ak,bw hh n hn,aa,e8,w8,ae (fu),bw hl n hn,aa]
  dsimp only
  rw[joinU h3 hh hl,e7,CB _ _ (by omega),aa]
  dsimp only
  rw[Fm]
  have hc:br sg (some (ma hi (8*n-1))) (some false)=some (decide (sg=true/\2^(16*n-1)<=nZ n hi lo)):=by
   cases sg with
   |false=>rfl
   |true=>
    rw[aE,kw (n:=n) (by omega)]
    have e:(ch hi n/2^(8*n-1)%2=1)↔2^(16*n-1)<=nZ n hi lo:=by
     have a1:=gP hi n
     have a2:=gP lo n
     unfold nZ
     rcases h3 with rfl|rfl|rfl
     ·rw[show(2:Nat)^(8*1)=256 from rfl]at*
      rw[show(2:Nat)^(8*1-1)=128 from rfl,show(2:Nat)^(16*1-1)=32768 from rfl];omega
     ·rw[show(2:Nat)^(8*2)=65536 from rfl]at*
      rw[show(2:Nat)^(8*2-1)=32768 from rfl,show(2:Nat)^(16*2-1)=2147483648 from rfl];omega
     ·rw[show(2:Nat)^(8*4)=4294967296 from rfl]at*
      rw[show(2:Nat)^(8*4-1)=2147483648 from rfl,show(2:Nat)^(16*4-1)=9223372036854775808 from rfl];omega
    simp only[e,true_and]
  rw[hc,aa]
  unfold oF
  by_cases hs:sg=true/\2^(16*n-1)<=nZ n hi lo
  ·rw[decide_eq_true hs,aE,if_pos hs]
   have hI16:(2:Int)^(16*n)=((2^(16*n):Nat):Int):=(k6 _).symm
   rw[hI16]
   obtain⟨N,hNe⟩:∃N,N=nZ n hi lo:=⟨_,rfl⟩
   rw[<-hNe]at hlt hN hs|-
   have hneg:(N:Int)-((2^(16*n):Nat):Int)<0:=by omega
   rw[if_pos hneg]
   refine Exists.elim (p:=fun l:Nat=>(br (ltI (n:Int) 4) (br (leI 0 (aj .u64 (bK .i64 16 (n:Int)))) (some (Sum.inl (((ior .u64 (N:Int) (dE .u64 18446744073709551615 (aj .u64 (bK .i64 16 (n:Int))))),()),()):Sum ((Int×Unit)×Unit) ((Int×Int×Unit)×Unit))) none) (some (Sum.inl (((N:Int),()),()))))=some (Sum.inl (((l:Int),()),()))/\(l:Int)=(N:Int)-((2^(16*n):Nat):Int)+18446744073709551616) ?_ ?_
   ·by_cases h4:n=4
    ·subst h4
     rw[fL (by decide),ak]
     refine⟨N,rfl,?_⟩
     rw[show((2^(16*4):Nat):Int)=18446744073709551616 from rfl];omega
    ·have h12:n=1\/n=2:=by omega
     rw[fP,aE,e16,w16,ae (fu)]
     have hm:dE .u64 18446744073709551615 ((16*n:Nat):Int)=((2^64-2^(16*n):Nat):Int):=by
      have:dE .u64 ((18446744073709551615:Nat):Int) ((16*n:Nat):Int)=_:=Ij (a:=18446744073709551615) (s:=16*n) (by omega)
      rw[show(18446744073709551615:Int)=((18446744073709551615:Nat):Int)from rfl,this]
      rcases h12 with rfl|rfl<;>decide +kernel
     have hor:N|||(2^64-2^(16*n))=N+(2^64-2^(16*n)):=by
      obtain⟨t,ht⟩:∃t,2^64-2^(16*n)=2^(16*n)*t:=⟨2^(64-16*n)-1,by rw[Nat.mul_sub,<-Nat.pow_add,show 16*n+(64-16*n)=64 by omega,Nat.mul_one]⟩
      rw[ht,Nat.or_comm,<-Nat.two_pow_add_eq_or_of_lt hlt,Nat.add_comm]
     rw[hm,orU hN (by have:=Nat.two_pow_pos (16*n);omega),hor]
     refine⟨_,rfl,?_⟩
     have h64:(2:Nat)^64=18446744073709551616:=rfl
     rw[h64]at h32|-
     generalize 2^(16*n)=P at*
     omega
   ·rintro l ⟨el,hl2⟩
    rw[el,aa,ah]
    have hlo0:0<=(l:Int):=by omega
    refine⟨18446744073709551615,(l:Int),rfl,by omega,by omega,by omega,?_,?_⟩
    ·omega
    ·omega
  ·rw[decide_eq_false hs,ak,if_neg hs,iN]
   refine⟨0,_,rfl,by omega,by omega,by omega,?_,by omega⟩
   have:((nZ n hi lo:Nat):Int)<((2^64:Nat):Int):=Int.ofNat_lt.2 hN
   exact this
set_option linter.unusedVariables false
theorem negA {h l p:Int}(h0:0<=h)(l0:0<=l)(l1:l<18446744073709551616)(h1:h<18446744073709551616)(e:h*18446744073709551616+l=p+340282366920938463463374607431768211456)(hp: -170141183460469231731687303715884105728<=p)(hp0:p<0):
  ((-l)%18446744073709551616=0->(18446744073709551615-h+1)%18446744073709551616*18446744073709551616+(-l)%18446744073709551616= -p)/\
  (¬(-l)%18446744073709551616=0->(18446744073709551615-h)*18446744073709551616+(-l)%18446744073709551616= -p):=by
 constructor<;>intro g<;>omega
theorem topH {h l X:Int}(h0:0<=h)(h1:h<18446744073709551616)(l0:0<=l)(l1:l<18446744073709551616)(hX: -170141183460469231731687303715884105728<=X)(hX2:X<170141183460469231731687303715884105728)
  (e:h*18446744073709551616+l=(if X<0 then X+340282366920938463463374607431768211456 else X)):h/9223372036854775808=1↔X<0:=by
 split at e<;>omega
theorem FX {n:Nat}(hn:cl (n:Int)=true)(hi lo:Int):oF true n hi lo<170141183460469231731687303715884105728:=by
 have hlt:=lE n hi lo
 unfold oF
 generalize nZ n hi lo=N at*
 rcases xS hn with rfl|rfl|rfl|rfl
 ·rw[show(2:Nat)^(16*1)=65536 from rfl]at hlt
  rw[show(2:Nat)^(16*1-1)=32768 from rfl,show(2:Int)^(16*1)=65536 from rfl]
  split<;>omega
 ·rw[show(2:Nat)^(16*2)=4294967296 from rfl]at hlt
  rw[show(2:Nat)^(16*2-1)=2147483648 from rfl,show(2:Int)^(16*2)=4294967296 from rfl]
  split<;>omega
 ·rw[show(2:Nat)^(16*4)=18446744073709551616 from rfl]at hlt
  rw[show(2:Nat)^(16*4-1)=9223372036854775808 from rfl,show(2:Int)^(16*4)=18446744073709551616 from rfl]
  split<;>omega
 ·rw[show(2:Nat)^(16*8)=340282366920938463463374607431768211456 from rfl]at hlt
  rw[show(2:Nat)^(16*8-1)=170141183460469231731687303715884105728 from rfl,show(2:Int)^(16*8)=340282366920938463463374607431768211456 from rfl]
  split
  ·omega
  ·rename_i g
   have:¬170141183460469231731687303715884105728<=N:=fun z=>g ⟨rfl,z⟩
   omega
theorem D0 {n:Nat}(hn:cl (n:Int)=true)(t:Bool){q:Nat}(hq:q<18446744073709551616):bW (aj .i64 (if t=true then aT .u64 0 (q:Int)else(q:Int))) n=lJ n (negI t q):=by
 have h8:=(dM hn).2
 refine pD hn (iA _) ?_
 unfold aj negI
 rw[b9,bt,Int.emod_emod_of_dvd _ (by have:=CT h8;exact this)]
 cases t with
 |false=>rw[iD,iD]
 |true=>
  rw[if_pos rfl,if_pos rfl,subU,Int.emod_emod_of_dvd _ (CT h8),Int.zero_sub]
theorem wK {op hi lo d:Int}{n:Nat}(hn:cl (n:Int)=true)(hh:I64 hi)(hl:I64 lo)(hd:I64 d):
  ∃q r:Int,dY ((op,(n:Int),hi,lo,d,()),())=some ((q,r,(ur op n hi lo d).2.2,()),())/\((ur op n hi lo d).2.2=true->q=(ur op n hi lo d).1/\r=(ur op n hi lo d).2.1):=by
 obtain⟨h1,h8⟩:=dM hn
 obtain⟨sg,hsg⟩:∃sg:Bool,sg=decide (op=16):=⟨_,rfl⟩
 have heq:eqI op 16=sg:=by rw[hsg];rfl
 suffices hsuf:Ret (dY ((op,(n:Int),hi,lo,d,()),())) (fun y=>∃q r:Int,y=((q,r,(ur op n hi lo d).2.2,()),())/\((ur op n hi lo d).2.2=true->q=(ur op n hi lo d).1/\r=(ur op n hi lo d).2.1))by
  obtain⟨y,e,q,r,rfl,g⟩:=hsuf
  exact⟨q,r,e,g⟩
 unfold dY
 dsimp only
 rw[heq]
 obtain⟨h,l,e1,a1,a2,a3,a4,hX⟩:=Bk hn hh hl sg
 have hxb:=CM (sg:=sg) hn hi lo
 have hxt:sg=true->oF sg n hi lo<170141183460469231731687303715884105728:=fun g=>by rw[g];exact FX hn hi lo
 unfold ur
 rw[<-hsg]
 obtain⟨X,hXe⟩:∃X,X=oF sg n hi lo:=⟨_,rfl⟩
 obtain⟨D,hDe⟩:∃D,D=nG sg n d:=⟨_,rfl⟩
 have hDb:=HT sg hn d
 rw[<-hXe]at hX hxb hxt
 rw[<-hDe]at hDb
 rw[<-hXe,<-hDe]
 obtain⟨q,hq⟩:∃q,q=X.natAbs/D.natAbs:=⟨_,rfl⟩
 obtain⟨r,hr⟩:∃r,r=X.natAbs%D.natAbs:=⟨_,rfl⟩
 rw[<-hq,<-hr,e1,aa,bw hd n hn,aa]
 dsimp only
 have hsx:aJ ((d,(n:Int),()),())=some (sx (8*n-1) d,()):=by
  rw[gK _ _ (by omega) (by omega),show(8*(n:Int)-1).toNat=8*n-1 by omega]
 have hsxI:=iF (8*n-1) (by omega) d
 refine Ret.bnd (Q:=fun y=>y=Sum.inl (((n:Int),sg,h,l,((D.natAbs:Nat):Int),decide (X<0),Cg X D,()),())/\D.natAbs<18446744073709551616) ?_ ?_
 ·cases sg with
  |true=>
   obtain⟨z1,z2⟩:=pz hsxI
   rw[aE,hsx,aa]
   rw[z1,aa,aa]
   have hD:D=sx (8*n-1) d:=by rw[hDe];exact if_pos rfl
   rw[Dz]
   have ht:=topH a1 a2 a3 a4 hxb.1 (hxt rfl) hX
   have e2:eqI (h/9223372036854775808) 1=decide (X<0):=by
    unfold eqI;rw[Bool.eq_iff_iff,decide_eq_true_eq,decide_eq_true_eq];exact ht
   have e3:aP (eqB (decide (X<0)) (ltI (sx (8*n-1) d) 0))=Cg X D:=by
    rw[hD]
    unfold Cg ltI
    cases decide (X<0)<;>cases decide (sx (8*n-1) d<0)<;>rfl
   dsimp only
   rw[e2,e3]
   exact Ret.some ⟨by rw[hD],by rw[hD];exact z2⟩
  |false=>
   have hD:D=(ch d n:Int):=by rw[hDe];exact iD
   have hX0:=hxb.2.2 rfl
   have hu:=eJ d
   have hle:ch d n<=uns d:=Nat.mod_le _ _
   rw[ak,eI,cz hd hn]
   have e3:Cg X D=false:=by
    unfold Cg
    rw[dF,dF];rfl
   rw[e3,dF,hD,Int.natAbs_natCast]
   exact Ret.some ⟨rfl,by omega⟩
 rintro _ ⟨rfl,hDlt⟩
 rw[ah]
 dsimp only[p5,p6]
 refine Ret.bnd (Q:=fun y=>∃h' l':Nat,h'<18446744073709551616/\l'<18446744073709551616/\h'*18446744073709551616+l'=X.natAbs/\y=Sum.inl (((n:Int),sg,(h':Int),(l':Int),((D.natAbs:Nat):Int),decide (X<0),Cg X D,()),())) ?_ ?_
 ·have fin:∀h' l':Int,0<=h'->h'<18446744073709551616->0<=l'->l'<18446744073709551616->h'*18446744073709551616+l'=((X.natAbs:Nat):Int)->∃a b:Nat,a<18446744073709551616/\b<18446744073709551616/\a*18446744073709551616+b=X.natAbs/\h'=(a:Int)/\l'=(b:Int):=fun h' l' b1 b2 b3 b4 b5=>⟨h'.toNat,l'.toNat,by omega,by omega,by omega,by omega,by omega⟩
  by_cases hx:X<0
  ·rw[decide_eq_true hx,aE,subU,inotU a1 a2,Cr,Int.zero_sub]
   rw[if_pos hx]at hX
   obtain⟨n1,n2⟩:=negA a1 a3 a4 a2 hX hxb.1 hx
   refine Ret.bnd (Q:=fun y=>∃h' l':Nat,h'<18446744073709551616/\l'<18446744073709551616/\h'*18446744073709551616+l'=X.natAbs/\y=Sum.inl (((n:Int),sg,(h':Int),(l':Int),((D.natAbs:Nat):Int),true,Cg X D,()),())) ?_ (by rintro _ ⟨h',l',g1,g2,g3,rfl⟩;rw[ah];exact Ret.some ⟨h',l',g1,g2,g3,rfl⟩)
   by_cases hz:(-l)%18446744073709551616=0
   ·obtain⟨a,b,g1,g2,g3,g4,g5⟩:=fin _ _ (by omega) (by omega) (by omega) (by omega) ((n1 hz).trans (by omega))
    rw[be hz,aE,g4,g5]
    exact Ret.some ⟨a,b,g1,g2,g3,rfl⟩
   ·obtain⟨a,b,g1,g2,g3,g4,g5⟩:=fin _ _ (by omega) (by omega) (by omega) (by omega) ((n2 hz).trans (by omega))
    rw[aq hz,ak,g4,g5]
    exact Ret.some ⟨a,b,g1,g2,g3,rfl⟩
  ·rw[if_neg hx]at hX
   obtain⟨a,b,g1,g2,g3,g4,g5⟩:=fin h l a1 a2 a3 a4 (hX.trans (by omega))
   rw[decide_eq_false hx,ak,g4,g5]
   exact Ret.some ⟨a,b,g1,g2,g3,rfl⟩
 rintro _ ⟨h',l',b1,b2,hM,rfl⟩
 rw[ah]
 dsimp only[p5,p6]
 by_cases hov:D.natAbs<=h'
 ·have hb:wb X.natAbs D.natAbs=true:=dT
  rw[fu,aE]
  unfold HQ
  rw[if_pos hb]
  exact Ret.some ⟨0,0,rfl,fun g=>by cases g⟩
 have hb:¬wb X.natAbs D.natAbs=true:=fun g=>by
  have:=of_decide_eq_true g
  omega
 rw[kb,ak,wG (by omega) hDlt b2,aa,hM,<-hq,<-hr]
 dsimp only
 have hq64:q<18446744073709551616:=by rw[hq];exact Nat.div_lt_of_lt_mul (by omega)
 have hr64:r<18446744073709551616:=by
  rw[hr]
  have:X.natAbs%D.natAbs<D.natAbs:=Nat.mod_lt _ (by omega)
  omega
 have hrD:r<D.natAbs:=by rw[hr];exact Nat.mod_lt _ (by omega)
 have hDn:sg=false->D.natAbs<2^(8*n):=fun g=>by
  have h5:=hDb.2.1
  have h6:=hDb.2.2.2 g
  have:((D.natAbs:Nat):Int)<((2^(8*n):Nat):Int):=by rw[k6];omega
  exact Int.ofNat_lt.1 this
 clear hov hXe hDe hq hr hM hxb hxt hDb hX e1
 have e8:bK .i64 8 (n:Int)=((8*n:Nat):Int):=by rw[cY (a:=8)];omega
 have w8:aj .u64 ((8*n:Nat):Int)=((8*n:Nat):Int):=cH
 have e7:aT .i64 ((8*n:Nat):Int) 1=((8*n-1:Nat):Int):=by rw[bn];omega
 have w7:aj .u64 ((8*n-1:Nat):Int)=((8*n-1:Nat):Int):=cH
 rw[e8,w8,e7,w7]
 cases sg with
 |false=>
  rw[show aP false=true from rfl,aE,ae (show leI 0 ((8*n:Nat):Int)=true from fu),BL (by omega)]
  have hok:br (eqI (n:Int) 8) (some true) (some (eqI ((q/2^(8*n):Nat):Int) 0))=some (decide (q<2^(8*n))):=by
   by_cases g:n=8
   ·subst g
    rw[be (by rfl),aE,decide_eq_true (by exact hq64)]
   ·rw[aq,ak]
    congr 1
    unfold eqI
    rw[Bool.eq_iff_iff,decide_eq_true_eq,decide_eq_true_eq]
    have hp:=Nat.two_pow_pos (8*n)
    rw[show(((q/2^(8*n):Nat):Int)=0)↔q/2^(8*n)=0 from by omega,Nat.div_eq_zero_iff_lt hp]
  rw[hok,aa]
  unfold HQ
  rw[if_neg hb,if_pos rfl]
  dsimp only
  refine Ret.some ⟨_,_,rfl,fun g=>?_⟩
  have gq:=of_decide_eq_true g
  have gr:r<2^(8*n):=Nat.lt_trans hrD (hDn rfl)
  have hw:∀z:Nat,z<2^(8*n)->aj .i64 (z:Int)=lJ n (z:Int):=fun z hz=>by
   unfold lJ aj
   have:(z:Int)%2^(8*n)=(z:Int):=by rw[<-k6,<-Int.natCast_emod,Nat.mod_eq_of_lt hz]
   rw[this]
  exact⟨hw q gq,hw r gr⟩
 |true=>
  rw[show aP true=false from rfl,ak,ae (show leI 0 ((8*n-1:Nat):Int)=true from fu)]
  have hlim:dE .u64 1 ((8*n-1:Nat):Int)=((2^(8*n-1):Nat):Int):=by
   have:dE .u64 ((1:Nat):Int) ((8*n-1:Nat):Int)=_:=Ij (a:=1) (s:=8*n-1) (by omega)
   rw[show(1:Int)=((1:Nat):Int)from rfl,this,Nat.one_mul,Nat.mod_eq_of_lt]
   have:2^(8*n-1)<2^64:=Nat.pow_lt_pow_right (by decide) (by omega)
   exact this
  rw[hlim]
  obtain⟨t,ht⟩:∃t:Bool,t=Cg X D:=⟨_,rfl⟩
  unfold HQ
  rw[if_neg hb,if_neg (show ¬true=false by decide),<-ht]
  obtain⟨P,hP⟩:∃P,P=2^(8*n-1):=⟨_,rfl⟩
  have hcond:br (ltI ((2^(8*n-1):Nat):Int) (q:Int)) (some true) (bnd (br (eqI (q:Int) ((2^(8*n-1):Nat):Int)) (some (aP t)) (some false)) (fun x15=>some x15))=some (wc t n q):=by
   unfold wc
   rw[<-hP]
   by_cases g:P<q
   ·rw[fP,aE]
    cases t with
    |true=>rw[if_pos rfl,decide_eq_true g]
    |false=>rw[iD,dT]
   ·rw[fL,ak]
    by_cases g2:q=P
    ·rw[be,aE,aa]
     cases t with
     |true=>rw[if_pos rfl,decide_eq_false g];rfl
     |false=>rw[iD,dT];rfl
    ·rw[aq,ak,aa]
     cases t with
     |true=>rw[if_pos rfl,decide_eq_false g]
     |false=>rw[iD,dF]
  rw[hcond,aa]
  by_cases ho:wc t n q=true
  ·rw[ho,aE,if_pos rfl]
   exact Ret.some ⟨0,0,rfl,fun g=>by cases g⟩
  ·rw[Bool.eq_false_iff.2 ho,ak,iD]
   refine Ret.bnd (Q:=fun y=>y=Sum.inl (((n:Int),decide (X<0),(if t=true then aT .u64 0 (q:Int)else(q:Int)),(r:Int),()),())) ?_ ?_
   ·cases t with
    |true=>rw[aE];exact Ret.some rfl
    |false=>rw[ak];exact Ret.some rfl
   rintro _ rfl
   rw[ah]
   dsimp only
   refine Ret.bnd (Q:=fun y=>y=Sum.inl (((n:Int),(if t=true then aT .u64 0 (q:Int)else(q:Int)),(if decide (X<0)=true then aT .u64 0 (r:Int)else(r:Int)),()),())) ?_ ?_
   ·cases decide (X<0)with
    |true=>rw[aE];exact Ret.some rfl
    |false=>rw[ak];exact Ret.some rfl
   rintro _ rfl
   rw[ah]
   dsimp only
   rw[bw (iA _) n hn,bw (iA _) n hn,aa,aa,D0 hn _ hq64,D0 hn _ hr64]
   exact Ret.some ⟨_,_,rfl,fun _=>⟨rfl,rfl⟩⟩
noncomputable section
theorem n6 (m:List Page)(a p:Int):∀(n:Nat) (k:Int),dh m a p n k=0\/dh m a p n k=13\/dh m a p n k=14
 |0,k=> .inl rfl
 |n+1,k=>by
  have ih:=n6 m a p n (k+1)
  unfold dh
  split
  ·exact .inr (.inl rfl)
  ·split
   ·exact .inr (.inr rfl)
   ·exact ih
def kZ (m:List Page)(a:Int)(n:Nat)(v:Int):List Page×Int:=
 match cA (((m,()),a,(n:Int),v,()),())with
 |some x=>(x.2.1,x.1.2.1)
 |none=>(m,0)
theorem vD (m:List Page)(hm:MemT m)(a v:Int)(n:Nat)(hn:cl (n:Int)=true)(ha:I64 a):
  cA (((m,()),a,(n:Int),v,()),())=some (((),(kZ m a n v).2,()),(kZ m a n v).1,())/\
   ((((kZ m a n v).2=13\/(kZ m a n v).2=14)/\(kZ m a n v).1=m/\(kZ m a n v).2=dh m a 2 n 0/\dh m a 2 n 0≠0)\/((kZ m a n v).2=0/\dh m a 2 n 0=0/\Laid m a (leB v n) n (kZ m a n v).1)):=by
 obtain⟨n1,n8⟩:=dM hn
 have hl:=hm.len
 have key:∃x e,cA (((m,()),a,(n:Int),v,()),())=some (((),e,()),x,())/\
   (((e=13\/e=14)/\x=m/\e=dh m a 2 n 0/\dh m a 2 n 0≠0)\/(e=0/\dh m a 2 n 0=0/\Laid m a (leB v n) n x)):=by
  unfold cA
  dsimp only
  rw[kD m hm.r a 2 n (by omega) ha (by decide) n1,aa]
  dsimp only
  by_cases hf:dh m a 2 n 0=0
  ·have hok:=lP hm.r n 0 hf
   have hok:∀k,k<(leB v n).length->¬fnd m (a+(k:Nat))<0:=fun k hk=>hok k (Nat.zero_le _) (by rw[pA]at hk;omega)
   obtain⟨x,hx1,hx2⟩:=H1 m hm a (leB v n) ha (by rw[pA];omega) hok
   rw[pA]at hx2
   refine⟨x,0,?_,.inr ⟨rfl,hf,hx2⟩⟩
   rw[hf,be rfl,bD,ak,DH v n n8,aa,hx1,aa]
  ·refine⟨m,dh m a 2 n 0,?_,.inl ⟨by rcases n6 m a 2 n 0 with h|h|h;exact absurd h hf;exact .inl h;exact .inr h,rfl,rfl,hf⟩⟩
   rw[aq hf,bS,aE,nX m (by omega),aa]
 obtain⟨x,e,h1,h2⟩:=key
 unfold kZ
 rw[h1]
 exact⟨rfl,h2⟩
theorem Hu {m:List Page}(hm:MemT m){a v:Int}{n:Nat}(hn:cl (n:Int)=true)(ha:I64 a):MemT (kZ m a n v).1:=by
 rcases(vD m hm a v n hn ha).2 with ⟨_,h,_⟩|⟨_,_,h⟩
 ·rw[h];exact hm
 ·exact h.memT hm
theorem wM (m:List Page)(a:Int)(n:Nat):I64 (k9 m a n).1:=by
 unfold k9
 split
 ·exact au _
 ·unfold I64;dsimp only;omega
structure MS where
 g:List Int
 m:List Page
 code:Int
 l:List Acc
abbrev TM:=(List Int×Int×Int×Int×Int×Unit)×List Page×List Acc×Unit
def MS.t (s:MS)(rip fl nx:Int):TM:=((s.g,rip,fl,nx,s.code,()),s.m,s.l,())
abbrev rg (g:List Int)(i:Int):Int:=aR g i (az .i)
def iH (g:List Int):Prop:=∀i,I64 (rg g i)
structure MS.ok (s:MS)(k:Nat):Prop where
 m:MemT s.m
 l:s.l.length<=k
 g:iH s.g
theorem MS.ok.mono {s:MS}{k j:Nat}(h:s.ok k)(hk:k<=j):s.ok j:=⟨h.m,Nat.le_trans h.l hk,h.g⟩
def MS.ld (s:MS)(a:Int)(n:Nat):Int×MS:=
 if s.code≠0 then(0,s)else((k9 s.m a n).1,{s with code:=(k9 s.m a n).2,l:=s.l++[Acc.mk 1 a n (k9 s.m a n).1]})
def MS.st (s:MS)(a:Int)(n:Nat)(v:Int):MS:=
 if s.code≠0 then s else {s with m:=(kZ s.m a n v).1,code:=(kZ s.m a n v).2,l:=s.l++[Acc.mk 2 a n (bW v n)]}
theorem F7 {α:Type}{xs:List α}{x:α}(h:xs.length<=1000):gA xs [x]=true:=by
 exact gQ (by simp;omega)
theorem DK {s:MS}{k:Nat}(hs:s.ok k)(hk:k<=1000){a:Int}(ha:I64 a){n:Nat}(hn:cl (n:Int)=true)(rip fl nx:Int):
  aN ((a,(n:Int),()),s.t rip fl nx)=some ((s.ld a n).1,(s.ld a n).2.t rip fl nx):=by
 obtain⟨n1,n8⟩:=dM hn
 unfold aN MS.t MS.ld
 dsimp only
 by_cases hc:s.code=0
 ·rw[hc,if_neg (by simp),be rfl,bD,ak,pW _ hs.m.r a n n1 n8 ha,aa]
  dsimp only
  rw[F7 (Nat.le_trans hs.l hk),aE]
  rfl
 ·rw[if_pos hc,aq hc,bS,aE]
theorem zm {s:MS}{k:Nat}(hs:s.ok k)(hk:k<=1000){a v:Int}(ha:I64 a){n:Nat}(hn:cl (n:Int)=true)(rip fl nx:Int):
  aF ((a,(n:Int),v,()),s.t rip fl nx)=some ((),(s.st a n v).t rip fl nx):=by
 unfold aF MS.t MS.st
 dsimp only
 by_cases hc:s.code=0
 ·rw[hc,if_neg (by simp),be rfl,bD,ak,(vD _ hs.m a v n hn ha).1,aa,bQ v n hn,aa]
  dsimp only
  rw[F7 (Nat.le_trans hs.l hk),aE]
  rfl
 ·rw[if_pos hc,aq hc,bS,aE]
theorem MS.ok.ld {s:MS}{k:Nat}(hs:s.ok k)(a:Int)(n:Nat):(s.ld a n).2.ok (k+1)/\I64 (s.ld a n).1/\(s.ld a n).2.g=s.g/\(s.ld a n).2.m=s.m:=by
 unfold MS.ld
 split
 ·exact⟨hs.mono (Nat.le_succ k),by unfold I64;dsimp only;omega,rfl,rfl⟩
 ·exact⟨⟨hs.m,by simp;exact hs.l,hs.g⟩,wM ..,rfl,rfl⟩
theorem MS.ok.st {s:MS}{k:Nat}(hs:s.ok k){a:Int}(ha:I64 a){n:Nat}(hn:cl (n:Int)=true)(v:Int):(s.st a n v).ok (k+1)/\(s.st a n v).g=s.g:=by
 unfold MS.st
 split
 ·exact⟨hs.mono (Nat.le_succ k),rfl⟩
 ·exact⟨⟨Hu hs.m hn ha,by simp;exact hs.l,hs.g⟩,rfl⟩
def setA (g:List Int)(i v:Int):List Int:=cD (dW 16 (az .i) g) i v
def ll (g:List Int)(r:Int)(n:Nat):Int:=if 16<=r then bW (cu .i64 (rg g (r-16)) 8) 1 else bW (rg g r) n
def qf (g:List Int)(r:Int)(n:Nat)(v:Int):List Int:=
 if 16<=r then setA g (r-16) (ior .i64 (gR .i64 (rg g (r-16)) 65280) (dE .i64 (bW v 1) 8))
 else if 4<=n then setA g r (bW v n)
 else setA g r (aA .i64 (rg g r) (aT .i64 (bW v n) (bW (rg g r) n)))
theorem iH.setA {g:List Int}(h:iH g){i v:Int}(hv:I64 v):iH (setA g i v):=by
 intro j
 have h0:∀k:Nat,I64 (((dW 16 (az .i) g)).getD k (az .i)):=fun k=>by
  unfold dW
  rw[List.getD_eq_getElem?_getD,List.getElem?_append]
  split
  ·have:=h (k:Int)
   unfold rg aR at this
   rw[Int.toNat_natCast,List.getD_eq_getElem?_getD]at this
   exact this
  ·rw[List.getElem?_replicate]
   split
   ·exact(by unfold I64;decide:I64 (0:Int))
   ·exact(by unfold I64;decide:I64 (0:Int))
 unfold rg aR Go.Den.G.setA cD
 rw[List.getD_eq_getElem?_getD,List.getElem?_set]
 split
 ·split
  ·exact hv
  ·exact(by unfold I64;decide:I64 (0:Int))
 ·have:=h0 j.toNat
  rw[List.getD_eq_getElem?_getD]at this
  exact this
theorem uG {g:List Int}(h:iH g){r:Int}{n:Nat}(hn:cl (n:Int)=true):I64 (ll g r n):=by
 unfold ll
 split
 ·exact eM (by
   have:=h (r-16)
   unfold I64 at this|-
   unfold cu
   rw[show(2:Int)^min (Int.toNat 8) IntKind.i64.bits=256 from rfl,Int.fdiv_eq_ediv_of_nonneg _ (by decide)]
   omega) (by rfl)
 ·exact eM (h r) hn
theorem lH {g:List Int}(h:iH g){r v:Int}(hv:I64 v){n:Nat}(hn:cl (n:Int)=true):iH (qf g r n v):=by
 unfold qf
 split
 ·exact h.setA (lA ..)
 ·split
  ·exact h.setA (eM hv hn)
  ·exact h.setA (au _)
theorem jO (r:Int):aC ((r,()),())=some (decide (16<=r/\r<=19),()):=by
 unfold aC
 dsimp only
 rw[m5,aa]
 congr 2
 unfold inB
 rw[Bool.eq_iff_iff]
 simp
def nE (g:List Int)(nx:Int)(o:Opd):Int:=
 let a:=if o.base=16 then aA .i64 o.disp nx else if 0<=o.base then aA .i64 o.disp (rg g o.base)else o.disp
 if 0<=o.index then aA .i64 a (bK .i64 (rg g o.index) o.scale)else a
structure OpV (o:Opd)(z:Int):Prop where
 r:o.kind≠2->(o.kind=1->sd o.reg z)
 b:o.kind=2->o.base<=16/\o.index<=15
 d:I64 o.disp
 i:I64 o.imm
theorem l9 {g:List Int}{nx:Int}{o:Opd}{z:Int}(h:OpV o z):I64 (nE g nx o):=by
 unfold nE
 dsimp only
 split
 ·exact au _
 ·split
  ·exact au _
  ·split
   ·exact au _
   ·exact h.d
def MS.rd (s:MS)(nx:Int)(o:Opd)(n:Nat):Int×MS:=
 if o.kind=1 then(ll s.g o.reg n,s)else if o.kind=2 then s.ld (nE s.g nx o) n else(o.imm,s)
def MS.wr (s:MS)(nx:Int)(o:Opd)(n:Nat)(v:Int):MS:=
 if o.kind=2 then s.st (nE s.g nx o) n v else {s with g:=qf s.g o.reg n v}
theorem Ie {s:MS}{k:Nat}(hs:s.ok k)(hk:k<=1000){o:Opd}{n:Nat}(hn:cl (n:Int)=true)(hv:OpV o n)(rip fl nx:Int):
  aw ((da o (),(n:Int),()),s.t rip fl nx)=some ((s.rd nx o n).1,(s.rd nx o n).2.t rip fl nx):=by
 unfold aw
 dsimp only[da,p5,p6]
 have hI:=l9 (g:=s.g) (nx:=nx) hv
 have hl:=DK hs hk hI hn rip fl nx
 by_cases h1:o.kind=1
 ·have hr:=hv.r (by omega) h1
  unfold MS.rd
  rw[if_pos h1,be h1,aE,jO,aa]
  unfold sd at hr
  dsimp only
  unfold ll MS.t
  by_cases h16:16<=o.reg
  ·rw[decide_eq_true ⟨h16,by omega⟩,aE,if_pos h16,bn,ae (cI),show(1:Int)=((1:Nat):Int)from rfl,bQ _ 1 rfl,aa]
  ·rw[dF,ak,if_neg h16,ae (cI),bQ _ n hn,aa]
 ·rw[aq h1,ak]
  by_cases h2:o.kind=2
  ·have hb:=hv.b h2
   unfold MS.rd
   rw[if_neg h1,if_pos h2,be h2,aE]
   have hg:=(hs.ld (nE s.g nx o) n).2.2.1
   have hfin:∀a:Int,a=nE s.g nx o->(bnd (aN ((a,(n:Int),()),s.t rip fl nx)) (fun x5=>some (x5.1,(s.g,rip,fl,nx,x5.2.1.2.2.2.2),x5.2.2)))=some ((s.ld (nE s.g nx o) n).1,(s.ld (nE s.g nx o) n).2.t rip fl nx):=by
    rintro _ rfl
    rw[hl,aa]
    unfold MS.t
    dsimp only
    rw[hg]
   unfold MS.t at hfin|-
   dsimp only
   by_cases b16:o.base=16
   ·rw[be b16,aE]
    by_cases hi:0<=o.index
    ·rw[ae (fu hi),ae (cI hi (by omega))]
     exact hfin _ (by unfold nE;dsimp only;rw[if_pos b16,if_pos hi])
    ·rw[ag (kb hi)]
     exact hfin _ (by unfold nE;dsimp only;rw[if_pos b16,if_neg hi])
   ·rw[aq b16,ak]
    by_cases hb0:0<=o.base
    ·rw[ae (fu hb0),ae (cI hb0 (by omega))]
     by_cases hi:0<=o.index
     ·rw[ae (fu hi),ae (cI hi (by omega))]
      exact hfin _ (by unfold nE;dsimp only;rw[if_neg b16,if_pos hb0,if_pos hi])
     ·rw[ag (kb hi)]
      exact hfin _ (by unfold nE;dsimp only;rw[if_neg b16,if_pos hb0,if_neg hi])
    ·rw[ag (kb hb0)]
     by_cases hi:0<=o.index
     ·rw[ae (fu hi),ae (cI hi (by omega))]
      exact hfin _ (by unfold nE;dsimp only;rw[if_neg b16,if_neg hb0,if_pos hi])
     ·rw[ag (kb hi)]
      exact hfin _ (by unfold nE;dsimp only;rw[if_neg b16,if_neg hb0,if_neg hi])
  ·unfold MS.rd
   rw[if_neg h1,if_neg h2,aq h2,ak]
theorem set_m {g:List Int}{r v:Int}{n:Nat}(hn:cl (n:Int)=true)(hr:sd r n){α:Type}(Z:List Int->Option α):
  (bnd (aC ((r,()),())) (fun x8=>br x8.1 (br (inR (aT .i64 r 16) 16) (bnd (af ((v,1,()),())) (fun x9=>Z (cD (dW 16 (az .i) g) (aT .i64 r 16) (ior .i64 (gR .i64 (aR g (aT .i64 r 16) (az .i)) 65280) (dE .i64 x9.1 8))))) none) (br (leI 4 (n:Int)) (bnd (af ((v,(n:Int),()),())) (fun x10=>br (inR r 16) (Z (cD (dW 16 (az .i) g) r x10.1)) none)) (br (inR r 16) (br (inR r 16) (bnd (af ((v,(n:Int),()),())) (fun x11=>bnd (af (((aR g r (az .i)),(n:Int),()),())) (fun x12=>br (inR r 16) (Z (cD (dW 16 (az .i) g) r (aA .i64 (aR g r (az .i)) (aT .i64 x11.1 x12.1)))) none))) none) none))))=Z (qf g r n v):=by
 unfold sd at hr
 rw[jO,aa]
 dsimp only
 unfold qf Go.Den.G.setA
 by_cases h16:16<=r
 ·rw[decide_eq_true ⟨h16,by omega⟩,aE,if_pos h16,bn,ae (cI),show(1:Int)=((1:Nat):Int)from rfl,bQ _ 1 rfl,aa]
 ·rw[dF,ak,if_neg h16]
  have hin:inR r 16=true:=cI
  by_cases h4:4<=n
  ·rw[ae (fu),bQ _ n hn,aa,hin,aE,if_pos h4]
  ·rw[ag (kb),hin,aE,aE,bQ _ n hn,bQ _ n hn,aa,aa,aE,if_neg h4]
theorem write_m {s:MS}{k:Nat}(hs:s.ok k)(hk:k<=1000){o:Opd}{n:Nat}{v:Int}(hn:cl (n:Int)=true)(hv:OpV o n)(h0:o.kind=1\/o.kind=2)(rip fl nx:Int):
  ar ((da o (),(n:Int),v,()),s.t rip fl nx)=some ((),(s.wr nx o n v).t rip fl nx):=by
 unfold ar
 dsimp only[da,p5,p6]
 have hI:=l9 (g:=s.g) (nx:=nx) hv
 have hl:=zm hs hk (v:=v) hI hn rip fl nx
 by_cases h2:o.kind=2
 ·have hb:=hv.b h2
  unfold MS.wr
  rw[if_pos h2,be h2,aE]
  have hg:=(hs.st (v:=v) hI hn).2
  have hfin:∀a:Int,a=nE s.g nx o->(bnd (aF ((a,(n:Int),v,()),s.t rip fl nx)) (fun x5=>some ((),(s.g,rip,fl,nx,x5.2.1.2.2.2.2),x5.2.2)))=some ((),(s.st (nE s.g nx o) n v).t rip fl nx):=by
   rintro _ rfl
   rw[hl,aa]
   unfold MS.t
   dsimp only
   rw[hg]
  unfold MS.t at hfin|-
  dsimp only
  by_cases b16:o.base=16
  ·rw[be b16,aE]
   by_cases hi:0<=o.index
   ·rw[ae (fu hi),ae (cI hi (by omega))]
    exact hfin _ (by unfold nE;dsimp only;rw[if_pos b16,if_pos hi])
   ·rw[ag (kb hi)]
    exact hfin _ (by unfold nE;dsimp only;rw[if_pos b16,if_neg hi])
  ·rw[aq b16,ak]
   by_cases hb0:0<=o.base
   ·rw[ae (fu hb0),ae (cI hb0 (by omega))]
    by_cases hi:0<=o.index
    ·rw[ae (fu hi),ae (cI hi (by omega))]
     exact hfin _ (by unfold nE;dsimp only;rw[if_neg b16,if_pos hb0,if_pos hi])
    ·rw[ag (kb hi)]
     exact hfin _ (by unfold nE;dsimp only;rw[if_neg b16,if_pos hb0,if_neg hi])
   ·rw[ag (kb hb0)]
    by_cases hi:0<=o.index
    ·rw[ae (fu hi),ae (cI hi (by omega))]
     exact hfin _ (by unfold nE;dsimp only;rw[if_neg b16,if_neg hb0,if_pos hi])
    ·rw[ag (kb hi)]
     exact hfin _ (by unfold nE;dsimp only;rw[if_neg b16,if_neg hb0,if_neg hi])
 ·have h1:o.kind=1:=by omega
  unfold MS.wr
  rw[if_neg h2,aq h2,ak]
  exact set_m hn (hv.r h2 h1) (fun g'=>some ((),(g',rip,fl,nx,s.code,()),s.m,s.l,()))
theorem MS.ok.rd {s:MS}{k:Nat}(hs:s.ok k)(nx:Int){o:Opd}{n:Nat}(hn:cl (n:Int)=true)(hv:OpV o n):(s.rd nx o n).2.ok (k+1)/\I64 (s.rd nx o n).1/\(s.rd nx o n).2.g=s.g/\(s.rd nx o n).2.m=s.m:=by
 unfold MS.rd
 split
 ·exact⟨hs.mono (Nat.le_succ k),uG hs.g hn,rfl,rfl⟩
 ·split
  ·exact hs.ld ..
  ·exact⟨hs.mono (Nat.le_succ k),hv.i,rfl,rfl⟩
theorem MS.ok.wr {s:MS}{k:Nat}(hs:s.ok k)(nx:Int){o:Opd}{n:Nat}{v:Int}(hI:I64 v)(hn:cl (n:Int)=true)(hv:OpV o n):(s.wr nx o n v).ok (k+1):=by
 unfold MS.wr
 split
 ·exact(hs.st (l9 hv) hn v).1
 ·exact⟨hs.m,Nat.le_trans hs.l (Nat.le_succ k),lH hs.g hI hn⟩
def MS.pu (s:MS)(v:Int):MS:=({s with g:=setA s.g 4 (aT .i64 (rg s.g 4) 8)}:MS).st (rg (setA s.g 4 (aT .i64 (rg s.g 4) 8)) 4) 8 v
def MS.po (s:MS):Int×MS:=((s.ld (rg s.g 4) 8).1,{(s.ld (rg s.g 4) 8).2 with g:=setA s.g 4 (aA .i64 (rg s.g 4) 8)})
theorem MS.ok.setA {s:MS}{k:Nat}(hs:s.ok k){i v:Int}(hv:I64 v):MS.ok {s with g:=Go.Den.G.setA s.g i v} k:=⟨hs.m,hs.l,hs.g.setA hv⟩
theorem MS.ok.pu {s:MS}{k:Nat}(hs:s.ok k)(v:Int):(s.pu v).ok (k+1):=by
 have h1:=hs.setA (i:=4) (v:=aT .i64 (rg s.g 4) 8) (au _)
 exact(h1.st (h1.g 4) rfl v).1
theorem MS.ok.po {s:MS}{k:Nat}(hs:s.ok k):s.po.2.ok (k+1)/\I64 s.po.1/\s.po.2.m=s.m:=by
 have h1:=hs.ld (rg s.g 4) 8
 unfold MS.po
 exact⟨⟨h1.1.m,h1.1.l,hs.g.setA (au _)⟩,h1.2.1,h1.2.2.2⟩
theorem push_m {s:MS}{k:Nat}(hs:s.ok k)(hk:k<=1000)(v rip fl nx:Int):cB ((v,()),s.t rip fl nx)=some ((),(s.pu v).t rip fl nx):=by
 have h1:=hs.setA (i:=4) (v:=aT .i64 (rg s.g 4) 8) (au _)
 have h2:=zm h1 hk (a:=rg (setA s.g 4 (aT .i64 (rg s.g 4) 8)) 4) (v:=v) (n:=8) (h1.g 4) rfl rip fl nx
 have h3:=(h1.st (a:=rg (setA s.g 4 (aT .i64 (rg s.g 4) 8)) 4) (n:=8) (h1.g 4) rfl v).2
 unfold cB
 unfold MS.t at h2|-
 dsimp only at h2 h3|-
 have h2':aF (((aR (cD (dW 16 (az .i) s.g) 4 (aT .i64 (aR s.g 4 (az .i)) 8)) 4 (az .i)),8,v,()),((cD (dW 16 (az .i) s.g) 4 (aT .i64 (aR s.g 4 (az .i)) 8)),rip,fl,nx,s.code,()),s.m,s.l,())=_:=h2
 rw[h2',aa]
 unfold MS.pu
 dsimp only
 rw[h3]
 rfl
theorem pop_m {s:MS}{k:Nat}(hs:s.ok k)(hk:k<=1000)(rip fl nx:Int):cN ((),s.t rip fl nx)=some (s.po.1,s.po.2.t rip fl nx):=by
 have h2:=DK hs hk (a:=rg s.g 4) (n:=8) (hs.g 4) rfl rip fl nx
 unfold cN
 unfold MS.t at h2|-
 dsimp only at h2|-
 have h2':aN (((aR s.g 4 (az .i)),8,()),(s.g,rip,fl,nx,s.code,()),s.m,s.l,())=_:=h2
 rw[h2',aa]
 rfl
def MS.go (s:MS)(nx:Int)(x:Ins):Int×MS:=if x.src.kind=3 then(aA .i64 nx x.src.imm,s)else s.rd nx x.src 8
theorem goal_m {s:MS}{k:Nat}(hs:s.ok k)(hk:k<=1000){x:Ins}(hv:OpV x.src 8)(rip fl nx:Int):bJ ((x,()),s.t rip fl nx)=some ((s.go nx x).1,(s.go nx x).2.t rip fl nx):=by
 have hr:=Ie hs hk (n:=8) rfl hv rip fl nx
 have hg:=(hs.rd nx (n:=8) rfl hv).2.2.1
 unfold bJ MS.go
 dsimp only
 by_cases h3:x.src.kind=3
 ·rw[be h3,aE,if_pos h3]
  rfl
 ·rw[aq h3,ak,if_neg h3]
  have hr':aw ((da x.src (),8,()),s.t rip fl nx)=_:=hr
  rw[hr',aa]
  unfold MS.t
  dsimp only
  rw[hg]
theorem MS.ok.go {s:MS}{k:Nat}(hs:s.ok k)(nx:Int){x:Ins}(hv:OpV x.src 8):(s.go nx x).2.ok (k+1)/\I64 (s.go nx x).1:=by
 unfold MS.go
 split
 ·exact⟨hs.mono (Nat.le_succ k),au _⟩
 ·have:=hs.rd nx (n:=8) rfl hv
  exact⟨this.1,this.2.1⟩
end
set_option synthInstance.maxSize 4000
set_option synthInstance.maxHeartbeats 400000
def kOf (c:UInt8):Int:=if c=114 then 1 else if c=109 then 2 else if c=105 then 3 else 0
def kindT (n:Nat)(kd ks:Int):Bool:=
 decide ((n<=12\/17<=n/\n<=28\/n=30\/n=35\/n=36->kd=1\/kd=2)/\(n=28->ks=1)/\(n=25->kd=1/\ks=2)/\
  (n=9->kd=2->ks≠2)/\(n=26\/n=27\/n=36\/n=17->kd=1/\(ks=1\/ks=2))/\(13<=n/\n<=16->ks=1\/ks=2)/\(n=29\/n=31\/n=32->ks=1\/ks=2\/ks=3)/\(n=33->ks=3)/\
  (20<=n/\n<=24->ks=1\/ks=3)/\(n=11\/n=12\/n=18\/n=19->ks=0)/\(n<=8\/n=10\/n=17->ks=1\/ks=2\/ks=3))
theorem Gq:∀n,n<45->1<=n->∀q∈prK n,q.length=2/\q.getD 0 0∈FR/\q.getD 1 0∈FR/\kindT n (kOf (q.getD 0 0)) (kOf (q.getD 1 0))=true:=by decide +kernel
theorem H0 {k:Int}{c:UInt8}(hc:c∈FR)(h:sJ k c):k=kOf c:=by
 have hc:c=114\/c=109\/c=105\/c=48:=by simpa[FR]using hc
 unfold sJ at h
 rcases hc with rfl|rfl|rfl|rfl<;>revert h<;>unfold kOf<;>intro h<;>simp at h|- <;>omega
theorem Gp {n:Nat}(h1:1<=n)(h2:n<45){kd ks:Int}(h:(prK n).any (xh kd ks)=true):kindT n kd ks=true:=by
 rw[List.any_eq_true]at h
 obtain⟨q,hq,hp⟩:=h
 obtain⟨l,a,b,t⟩:=Gq n h2 h1 q hq
 match q,l with
 |[c,d],_=>
  simp only[xh,Bool.and_eq_true,decide_eq_true_eq]at hp
  rw[H0 (c:=c) a hp.1,H0 (c:=d) b hp.2]
  exact t
def sizeT (n:Nat)(z:Int):Bool:=decide ((n<=28\/n=36\/n=40->cl z=true)/\(n=39->z=2\/z=4\/z=8)/\(29<=n/\n<=32->z=8)/\(n=35->z=1)/\(n=33->z=0))
theorem Hs:∀n,n<45->1<=n->∀z∈szL (szK n),sizeT n z=true:=by decide +kernel
structure ExV (x:Ins)(n:Nat):Prop where
 op:x.op=n
 n1:1<=n
 n2:n<45
 kt:kindT n x.dst.kind x.src.kind=true
 zt:sizeT n x.size=true
 dv:OpV x.dst x.size
 sv:OpV x.src (sSz x n)
 fr:(n=26\/n=27->cl x.frm=true)/\(¬(n=26\/n=27)->x.frm=0)
 c0:0<=x.cond
 c1:x.cond<=15
theorem HM {o:Opd}{z:Int}(h:rV o z)(hd:I64 o.disp)(hi:I64 o.imm):OpV o z:=by
 unfold rV opB Cj at h
 refine⟨fun _ h1=>?_,fun h2=>?_,hd,hi⟩
 ·rcases h with h|h|h|h
  ·exact h.2.2.2.2.2.2
  ·omega
  ·omega
  ·omega
 ·rcases h with h|h|h|h
  ·omega
  ·omega
  ·omega
  ·omega
theorem ExV_of {x:Ins}{n:Nat}(hop:x.op=n)(h1:1<=n)(h2:n<45)(h:HX x n)(hI:I64 x.dst.disp/\I64 x.dst.imm/\I64 x.src.disp/\I64 x.src.imm):ExV x n:=by
 obtain⟨_,_,hs,hf,_,c0,c1,hd,hsr,_⟩:=h
 unfold shB at hs
 simp only[Bool.and_eq_true,decide_eq_true_eq]at hs
 obtain⟨hz,hk,hnum⟩:=hs
 refine⟨hop,h1,h2,Gp h1 h2 hk,Hs n h2 h1 _ hz,HM hd hI.1 hI.2.1,HM hsr hI.2.2.1 hI.2.2.2,⟨fun h=>?_,fun h=>?_⟩,c0,c1⟩
 ·unfold xR at hnum
  rcases h with rfl|rfl
  ·have hnum:decide (x.frm=1\/x.frm=2/\2<x.size)=true:=hnum
   rcases of_decide_eq_true hnum with h|h
   ·rw[h];rfl
   ·rw[h.1];rfl
  ·have hnum:decide (x.frm=1\/x.frm=2/\2<x.size\/x.frm=4/\x.size=8)=true:=hnum
   rcases of_decide_eq_true hnum with h|h|h
   ·rw[h];rfl
   ·rw[h.1];rfl
   ·rw[h.1];rfl
 ·rcases hf with h'|h'
  ·exact absurd h' h
  ·exact h'
theorem ExV.kd {x:Ins}{n:Nat}(h:ExV x n):(n<=12\/17<=n/\n<=28\/n=30\/n=35\/n=36->x.dst.kind=1\/x.dst.kind=2)/\(n=28->x.src.kind=1)/\(n=25->x.dst.kind=1/\x.src.kind=2)/\
  (n=9->x.dst.kind=2->x.src.kind≠2)/\(n=26\/n=27\/n=36\/n=17->x.dst.kind=1/\(x.src.kind=1\/x.src.kind=2))/\(13<=n/\n<=16->x.src.kind=1\/x.src.kind=2)/\(n=29\/n=31\/n=32->x.src.kind=1\/x.src.kind=2\/x.src.kind=3)/\(n=33->x.src.kind=3)/\
  (20<=n/\n<=24->x.src.kind=1\/x.src.kind=3)/\(n=11\/n=12\/n=18\/n=19->x.src.kind=0)/\(n<=8\/n=10\/n=17->x.src.kind=1\/x.src.kind=2\/x.src.kind=3):=of_decide_eq_true h.kt
theorem ExV.szs {x:Ins}{n:Nat}(h:ExV x n):(n<=28\/n=36\/n=40->cl x.size=true)/\(n=39->x.size=2\/x.size=4\/x.size=8)/\(29<=n/\n<=32->x.size=8)/\(n=35->x.size=1)/\(n=33->x.size=0):=of_decide_eq_true h.zt
theorem qC {z:Int}(h:cl z=true):∃k:Nat,z=(k:Int)/\cl (k:Int)=true:=by
 obtain⟨k,hk,_⟩:=Gl h
 exact⟨k,hk,by rw[<-hk];exact h⟩
noncomputable section
theorem BC {r:Int×MS}{g:List Int}{m:List Page}(hg:r.2.g=g)(hm:r.2.m=m):∃v c' l',r=(v,MS.mk g m c' l'):=by
 obtain⟨v,g',m',c',l'⟩:=r
 cases hg;cases hm
 exact⟨v,c',l',rfl⟩
theorem r9 {g:List Int}{m:List Page}{c:Int}{l:List Acc}{k:Nat}(hs:(MS.mk g m c l).ok k)(hk:k<=1000){o:Opd}{n:Nat}(hn:cl (n:Int)=true)(hv:OpV o n)(nx:Int):
  ∃v c' l',(MS.mk g m c l).rd nx o n=(v,⟨g,m,c',l'⟩)/\(∀rip fl,aw ((da o (),(n:Int),()),(g,rip,fl,nx,c,()),m,l,())=some (v,(g,rip,fl,nx,c',()),m,l',()))/\(MS.mk g m c' l').ok (k+1)/\I64 v:=by
 obtain⟨h1,h2,h3,h4⟩:=hs.rd nx hn hv
 have h5:=fun rip fl=>Ie hs hk hn hv rip fl nx
 obtain⟨v,c',l',e⟩:=BC h3 h4
 rw[e]at h1 h2
 refine⟨v,c',l',e,fun rip fl=>?_,h1,h2⟩
 have:=h5 rip fl
 rw[e]at this
 exact this
theorem sS {g:List Int}{m:List Page}{c:Int}{l:List Acc}{k:Nat}(hs:(MS.mk g m c l).ok k)(hk:k<=1000){o:Opd}{n:Nat}(hn:cl (n:Int)=true)(hv:OpV o n)(h0:o.kind=1\/o.kind=2)(nx:Int){v:Int}(hI:I64 v):
  ∃g' m' c' l',(MS.mk g m c l).wr nx o n v=⟨g',m',c',l'⟩/\(∀rip fl,ar ((da o (),(n:Int),v,()),(g,rip,fl,nx,c,()),m,l,())=some ((),(g',rip,fl,nx,c',()),m',l',()))/\(MS.mk g' m' c' l').ok (k+1):=
 ⟨_,_,_,_,rfl,fun rip fl=>write_m hs hk hn hv h0 rip fl nx,hs.wr nx hI hn hv⟩
theorem pu_ex {g:List Int}{m:List Page}{c:Int}{l:List Acc}{k:Nat}(hs:(MS.mk g m c l).ok k)(hk:k<=1000)(v:Int):
  ∃g' m' c' l',(MS.mk g m c l).pu v=⟨g',m',c',l'⟩/\(∀rip fl nx,cB ((v,()),(g,rip,fl,nx,c,()),m,l,())=some ((),(g',rip,fl,nx,c',()),m',l',()))/\(MS.mk g' m' c' l').ok (k+1):=
 ⟨_,_,_,_,rfl,fun rip fl nx=>push_m hs hk v rip fl nx,hs.pu v⟩
theorem po_ex {g:List Int}{m:List Page}{c:Int}{l:List Acc}{k:Nat}(hs:(MS.mk g m c l).ok k)(hk:k<=1000):
  ∃v g' m' c' l',(MS.mk g m c l).po=(v,⟨g',m',c',l'⟩)/\(∀rip fl nx,cN ((),(g,rip,fl,nx,c,()),m,l,())=some (v,(g',rip,fl,nx,c',()),m',l',()))/\(MS.mk g' m' c' l').ok (k+1)/\I64 v:=
 ⟨_,_,_,_,_,rfl,fun rip fl nx=>pop_m hs hk rip fl nx,hs.po.1,hs.po.2.1⟩
theorem go_ex {g:List Int}{m:List Page}{c:Int}{l:List Acc}{k:Nat}(hs:(MS.mk g m c l).ok k)(hk:k<=1000){x:Ins}(hv:OpV x.src 8)(nx:Int):
  ∃v c' l',(MS.mk g m c l).go nx x=(v,⟨g,m,c',l'⟩)/\(∀rip fl,bJ ((x,()),(g,rip,fl,nx,c,()),m,l,())=some (v,(g,rip,fl,nx,c',()),m,l',()))/\(MS.mk g m c' l').ok (k+1)/\I64 v:=by
 obtain⟨h1,h2⟩:=hs.go nx hv
 have h5:=fun rip fl=>goal_m hs hk hv rip fl nx
 have h3:((MS.mk g m c l).go nx x).2.g=g/\((MS.mk g m c l).go nx x).2.m=m:=by
  unfold MS.go
  split
  ·exact⟨rfl,rfl⟩
  ·exact(hs.rd nx (n:=8) rfl hv).2.2
 obtain⟨v,c',l',e⟩:=BC h3.1 h3.2
 rw[e]at h1 h2
 refine⟨v,c',l',e,fun rip fl=>?_,h1,h2⟩
 have:=h5 rip fl
 rw[e]at this
 exact this
theorem ld_ex {g:List Int}{m:List Page}{c:Int}{l:List Acc}{k:Nat}(hs:(MS.mk g m c l).ok k)(hk:k<=1000){a:Int}(ha:I64 a){n:Nat}(hn:cl (n:Int)=true):
  ∃v c' l',(MS.mk g m c l).ld a n=(v,⟨g,m,c',l'⟩)/\(∀rip fl nx,aN ((a,(n:Int),()),(g,rip,fl,nx,c,()),m,l,())=some (v,(g,rip,fl,nx,c',()),m,l',()))/\(MS.mk g m c' l').ok (k+1)/\I64 v:=by
 obtain⟨h1,h2,h3,h4⟩:=hs.ld a n
 have h5:=fun rip fl nx=>DK hs hk ha hn rip fl nx
 obtain⟨v,c',l',e⟩:=BC h3 h4
 rw[e]at h1 h2
 refine⟨v,c',l',e,fun rip fl nx=>?_,h1,h2⟩
 have:=h5 rip fl nx
 rw[e]at this
 exact this
theorem st_ex {g:List Int}{m:List Page}{c:Int}{l:List Acc}{k:Nat}(hs:(MS.mk g m c l).ok k)(hk:k<=1000){a:Int}(ha:I64 a){n:Nat}(hn:cl (n:Int)=true)(v:Int):
  ∃m' c' l',(MS.mk g m c l).st a n v=⟨g,m',c',l'⟩/\(∀rip fl nx,aF ((a,(n:Int),v,()),(g,rip,fl,nx,c,()),m,l,())=some ((),(g,rip,fl,nx,c',()),m',l',()))/\(MS.mk g m' c' l').ok (k+1):=by
 obtain⟨h1,h2⟩:=hs.st ha hn v
 have h5:=fun rip fl nx=>zm hs hk (v:=v) ha hn rip fl nx
 obtain⟨m',c',l',e⟩:∃m' c' l',(MS.mk g m c l).st a n v=⟨g,m',c',l'⟩:=by
  generalize (MS.mk g m c l).st a n v=r at h2
  obtain⟨g',m',c',l'⟩:=r
  cases h2
  exact⟨m',c',l',rfl⟩
 rw[e]at h1
 refine⟨m',c',l',e,fun rip fl nx=>?_,h1⟩
 have:=h5 rip fl nx
 rw[e]at this
 exact this
def AE (n z:Nat):Nat:=if 20<=n/\n<=24 then 8 else z
def pf (n z:Nat)(a b fl:Int):Int×Int:=
 if n<=8\/n=10 then xY n z a b fl else if n=11\/n=12\/n=18\/n=19 then y4 n z a fl
 else if 20<=n then jU n z a (bW b 1) fl else((rH n z a b fl).1,(rH n z a b fl).2.2)
def MS.rd0 (s:MS)(nx:Int)(o:Opd)(n:Nat):Int×MS:=if o.kind≠0 then s.rd nx o n else(0,s)
def MS.reck (s:MS)(nx fl:Int)(x:Ins)(n z:Nat):MS×Int:=
 let a:=s.rd nx x.dst z
 let b:=a.2.rd0 nx x.src (AE n z)
 let r:=pf n z a.1 b.1 fl
 (if n≠8/\n≠10 then b.2.wr nx x.dst z r.1 else b.2,r.2)
theorem qN {x:Ins}{n z:Nat}(hx:ExV x n)(hn:n<=24)(hz:x.size=z)(hz':cl (z:Int)=true):gY ((x,()),())=some ((AE n z:Int),())/\sSz x n=(AE n z:Int):=by
 have hf:=hx.fr.2 (by omega)
 have h0:=(dM hz').1
 unfold gY di sSz AE
 dsimp only
 rw[hf,be rfl,bD,ak,m5,aa,aa,hx.op,hz]
 dsimp only
 by_cases h:20<=n/\n<=24
 ·have hb:inB (n:Int) 20 24=true:=by unfold inB;simp;omega
  rw[hb,aE,aa,aE,if_pos h,if_pos h]
  exact⟨rfl,rfl⟩
 ·have hb:inB (n:Int) 20 24=false:=by unfold inB;simp;omega
  rw[hb,ak,aa,ag (aq),if_neg h,if_neg h,iD]
  exact⟨rfl,rfl⟩
theorem Gg (n:Nat):jA (((n:Int),()),())=some (decide (1<=n/\n<=8\/n=10),()):=by
 unfold jA
 dsimp only
 rw[m5,aa]
 dsimp only
 have hb:inB (n:Int) 1 8=decide (1<=n/\n<=8):=by unfold inB;rw[Bool.eq_iff_iff];simp;omega
 have he:eqI (n:Int) 10=decide (n=10):=by unfold eqI;rw[Bool.eq_iff_iff];simp;omega
 rw[hb,he,AT,aa]
 congr 2
 rw[Bool.eq_iff_iff];simp
theorem Gk (n:Nat):jB (((n:Int),()),())=some (decide (n=11\/n=12\/n=18\/n=19),()):=by
 unfold jB
 dsimp only
 have he:∀j:Nat,eqI (n:Int) (j:Int)=decide (n=j):=fun j=>by unfold eqI;rw[Bool.eq_iff_iff];simp;omega
 have e1:=he 11
 have e2:=he 12
 have e3:=he 18
 have e4:=he 19
 rw[show((11:Nat):Int)=11 from rfl]at e1
 rw[show((12:Nat):Int)=12 from rfl]at e2
 rw[show((18:Nat):Int)=18 from rfl]at e3
 rw[show((19:Nat):Int)=19 from rfl]at e4
 rw[e1,e2,e3,e4,AT,aa,AT,aa,AT,aa]
 congr 2
 rw[Bool.eq_iff_iff];simp[or_assoc]
theorem yG (n:Nat):di (((n:Int),()),())=some (decide (20<=n/\n<=24),()):=by
 unfold di
 dsimp only
 rw[m5,aa]
 congr 2
 unfold inB;rw[Bool.eq_iff_iff];simp;omega
theorem rckV_ok {n z:Nat}{a b fl:Int}(hz:cl (z:Int)=true)(ha:I64 a)(hI:I64 fl)(hf:bU fl=true):I64 (pf n z a b fl).1/\bU (pf n z a b fl).2=true/\I64 (pf n z a b fl).2:=by
 unfold pf
 split
 ·exact Cs hz ha
 split
 ·exact D9 hz hI hf
 split
 ·exact xz hz ha hI hf
 ·have:=va (op:=n) (n:=z) (a:=a) (b:=b) hI hf
  exact⟨this.1,this.2.2.1,this.2.2.2⟩
theorem reck_m {g:List Int}{m:List Page}{c:Int}{l:List Acc}{k:Nat}(hs:(MS.mk g m c l).ok k)(hk:k+3<=1000){x:Ins}{n z:Nat}(hx:ExV x n)(hn:n<=8\/10<=n/\n<=12\/17<=n/\n<=24)(hz:x.size=z)
  {fl:Int} (hI:I64 fl) (hf:bU fl=true) (nx:Int):
  ∃g' m' c' l' fl',(MS.mk g m c l).reck nx fl x n z=(⟨g',m',c',l'⟩,fl')/\(∀rip,cF ((x,()),(g,rip,fl,nx,c,()),m,l,())=some ((),(g',rip,fl',nx,c',()),m',l',()))/\(MS.mk g' m' c' l').ok (k+3)/\I64 fl'/\bU fl'=true:=by
 have hz':cl (z:Int)=true:=by rw[<-hz];exact hx.szs.1 (by omega)
 have hkd:=hx.kd.1 (by omega)
 have hdv:=hx.dv
 have hsv:=hx.sv
 obtain⟨hss,hss2⟩:=qN hx (by omega) hz hz'
 rw[hz]at hdv
 rw[hss2]at hsv
 have hzs:cl (AE n z:Int)=true:=by unfold AE;split;rfl;exact hz'
 obtain⟨v1,c1,l1,e1,r1,ok1,I1⟩:=r9 hs (by omega) hz' hdv nx
 have hb:∃v2 c2 l2,(MS.mk g m c1 l1).rd0 nx x.src (AE n z)=(v2,⟨g,m,c2,l2⟩)/\(MS.mk g m c2 l2).ok (k+2)/\I64 v2/\(x.src.kind=0->v2=0/\c2=c1/\l2=l1)/\
   (x.src.kind≠0->∀rip fl,aw ((da x.src (),(AE n z:Int),()),(g,rip,fl,nx,c1,()),m,l1,())=some (v2,(g,rip,fl,nx,c2,()),m,l2,())):=by
  unfold MS.rd0
  by_cases h0:x.src.kind=0
  ·rw[if_neg (by simpa using h0)]
   exact⟨0,c1,l1,rfl,ok1.mono (by omega),by unfold I64;omega,fun _=>⟨rfl,rfl,rfl⟩,fun h=>absurd h0 h⟩
  ·rw[if_pos h0]
   obtain⟨v2,c2,l2,e2,r2,ok2,I2⟩:=r9 ok1 (by omega) hzs hsv nx
   exact⟨v2,c2,l2,e2,ok2,I2,fun h=>absurd h h0,fun _=>r2⟩
 obtain⟨v2,c2,l2,e2,ok2,I2,h20,h21⟩:=hb
 obtain⟨rI,rf,rfI⟩:=rckV_ok (n:=n) (b:=v2) hz' I1 hI hf
 have hw:∃g' m' c' l',(if n≠8/\n≠10 then(MS.mk g m c2 l2).wr nx x.dst z (pf n z v1 v2 fl).1 else(MS.mk g m c2 l2))=⟨g',m',c',l'⟩/\(MS.mk g' m' c' l').ok (k+3)/\
   (n≠8/\n≠10->∀rip fl',ar ((da x.dst (),(z:Int),(pf n z v1 v2 fl).1,()),(g,rip,fl',nx,c2,()),m,l2,())=some ((),(g',rip,fl',nx,c',()),m',l',()))/\
   (¬(n≠8/\n≠10)->g'=g/\m'=m/\c'=c2/\l'=l2):=by
  by_cases h:n≠8/\n≠10
  ·rw[if_pos h]
   obtain⟨g',m',c',l',e3,r3,ok3⟩:=sS ok2 (by omega) hz' hdv hkd nx rI
   exact⟨g',m',c',l',e3,ok3,fun _=>r3,fun g=>absurd h g⟩
  ·rw[if_neg h]
   exact⟨g,m,c2,l2,rfl,ok2.mono (by omega),fun g=>absurd g h,fun _=>⟨rfl,rfl,rfl,rfl⟩⟩
 obtain⟨g',m',c',l',e3,ok3,w1,w2⟩:=hw
 refine⟨g',m',c',l',(pf n z v1 v2 fl).2,?_,fun rip=>?_,ok3,rfI,rf⟩
 ·unfold MS.reck
  dsimp only
  rw[e1]
  dsimp only
  rw[e2]
  dsimp only
  rw[e3]
 unfold cF
 dsimp only
 rw[hz,r1,aa]
 dsimp only
 refine(Ret.bnd (Q:=fun y=>y=Sum.inl ((v1,v2,()),(g,rip,fl,nx,c2,()),m,l2,(dX x ()),())) ?_ ?_).eq
 ·by_cases h0:x.src.kind=0
  ·obtain⟨rfl,rfl,rfl⟩:=h20 h0
   rw[be h0,bD,ak]
   exact Ret.some rfl
  ·rw[aq h0,bS,aE,hss,aa,h21 h0,aa]
   exact Ret.some rfl
 rintro _ rfl
 rw[ah]
 dsimp only[dX,da]
 rw[hx.op,hz,Gg,aa]
 dsimp only
 refine Ret.bnd (Q:=fun y=>y=Sum.inl (((pf n z v1 v2 fl).1,()),(g,rip,(pf n z v1 v2 fl).2,nx,c2,()),m,l2,(dX x ()),())) ?_ ?_
 ·have ex:(((n:Int),(z:Int),x.cond,x.frm,x.dst.kind,x.dst.reg,x.dst.base,x.dst.index,x.dst.scale,x.dst.disp,x.dst.imm,x.src.kind,x.src.reg,x.src.base,x.src.index,x.src.scale,x.src.disp,x.src.imm,x.len,()):Int×Int×Int×Int×Int×Int×Int×Int×Int×Int×Int×Int×Int×Int×Int×Int×Int×Int×Int×Unit)=dX x ():=by
   rw[<-hx.op,<-hz];rfl
  unfold pf
  by_cases ha:n<=8\/n=10
  ·have h1:=hx.n1
   rw[dT,aE,if_pos ha,alu_eq hz' I1 I2,aa]
   dsimp only
   exact Ret.some (by rw[ex])
  ·rw[dF,ak,if_neg ha,Gk,aa]
   dsimp only
   refine Ret.bnd (Q:=fun y=>y=Sum.inl (((pf n z v1 v2 fl).1,()),(g,rip,(pf n z v1 v2 fl).2,nx,c2,()),m,l2,(dX x ()),())) ?_ ?_
   ·unfold pf
    rw[if_neg ha]
    by_cases h1:n=11\/n=12\/n=18\/n=19
    ·rw[decide_eq_true h1,aE,if_pos h1,one_eq hz' I1,aa]
     dsimp only
     exact Ret.some (by rw[ex])
    ·rw[decide_eq_false h1,ak,if_neg h1,yG,aa]
     dsimp only
     refine Ret.bnd (Q:=fun y=>y=Sum.inl (((pf n z v1 v2 fl).1,()),(g,rip,(pf n z v1 v2 fl).2,nx,c2,()),m,l2,(dX x ()),())) ?_ ?_
     ·unfold pf
      rw[if_neg ha,if_neg h1]
      by_cases h2:20<=n
      ·rw[dT,aE,if_pos h2,show(1:Int)=((1:Nat):Int)from rfl,bQ _ 1 rfl,aa,Hq (by omega) hz' I1 hI hf,aa]
       dsimp only
       exact Ret.some (by rw[ex])
      ·rw[dF,ak,if_neg h2,rJ hz' I1 I2 hI hf,aa]
       dsimp only
       exact Ret.some (by rw[ex])
     ·rintro _ rfl
      rw[ah]
      exact Ret.some (by unfold pf;rw[if_neg ha,if_neg h1])
   ·rintro _ rfl
    rw[ah]
    exact Ret.some (by unfold pf;rw[if_neg ha])
 rintro _ rfl
 rw[ah]
 dsimp only[dX,da,cp7]
 rw[hx.op,hz]
 have hbr:br (aP (eqI (n:Int) 8)) (some (aP (eqI (n:Int) 10))) (some false)=some (decide (n≠8/\n≠10)):=by
  by_cases a8:n=8
  ·rw[be,bD,ak,dF]
  ·rw[aq,bS,aE]
   by_cases a10:n=10
   ·rw[be,bD,dF]
   ·rw[aq,bS,dT]
 rw[hbr,aa]
 by_cases h:n≠8/\n≠10
 ·rw[decide_eq_true h,aE]
  have hw:=w1 h rip (pf n z v1 v2 fl).2
  unfold da at hw
  rw[hw,aa]
  exact Ret.some rfl
 ·obtain⟨rfl,rfl,rfl,rfl⟩:=w2 h
  rw[decide_eq_false h,ak]
  exact Ret.some rfl
end
set_option linter.unusedSectionVars false
noncomputable section
def MS.flow (s:MS)(rip fl nx:Int)(x:Ins)(n:Nat):MS×Int:=
 if n=29 then((s.rd nx x.src 8).2.pu (s.rd nx x.src 8).1,rip)
 else if n=30 then(s.po.2.wr nx x.dst 8 s.po.1,rip)
 else if n=31 then((s.go nx x).2.pu nx,(s.go nx x).1)
 else if n=34 then(s.po.2,s.po.1)
 else if n=32 then((s.go nx x).2,(s.go nx x).1)
 else if n=33 then(if jo x.cond fl=true then((s.go nx x).2,(s.go nx x).1)else(s,rip))
 else if n=41 then({s.st (rg s.g 7) 1 (rg s.g 0)with g:=setA s.g 7 (aA .i64 (rg s.g 7) 1)},rip)
 else if n=42 then({(s.ld (rg s.g 6) 1).2.st (rg s.g 7) 1 (s.ld (rg s.g 6) 1).1 with g:=setA (setA s.g 6 (aA .i64 (rg s.g 6) 1)) 7 (aA .i64 (rg (setA s.g 6 (aA .i64 (rg s.g 6) 1)) 7) 1)},rip)
 else if n=38 then({s with code:=17},rip)
 else if n=43\/n=44 then({s with code:=18},rip)
 else(s,rip)
section
variable {g:List Int}{m:List Page}{c:Int}{l:List Acc}{k:Nat}(hs:(MS.mk g m c l).ok k)(hk:k+3<=1000){x:Ins}
include hs hk
theorem flow_29 (hx:ExV x 29)(rip fl nx:Int):∃g' m' c' l' rip',(MS.mk g m c l).flow rip fl nx x 29=(⟨g',m',c',l'⟩,rip')/\ap ((x,()),(g,rip,fl,nx,c,()),m,l,())=some ((),(g',rip',fl,nx,c',()),m',l',())/\(MS.mk g' m' c' l').ok (k+3):=by
 unfold MS.flow ap
 dsimp only
 have hop:=hx.op
 have hsv:=hx.sv
 rw[show sSz x 29=x.size from by unfold sSz;rw[iD,hx.fr.2 (by decide),iD],hx.szs.2.2.1 (by decide)]at hsv
 obtain⟨v1,c1,l1,e1,r1,ok1,I1⟩:=r9 hs (by omega) (n:=8) rfl hsv nx
 obtain⟨g',m',c',l',e2,r2,ok2⟩:=pu_ex ok1 (by omega) v1
 have r1':aw ((da x.src (),8,()),(g,rip,fl,nx,c,()),m,l,())=_:=r1 rip fl
 rw[if_pos rfl,e1,hop,be,aE,r1',aa,r2,aa]
 exact⟨g',m',c',l',rip,by dsimp only;rw[e2],rfl,ok2.mono (by omega)⟩
theorem flow_30 (hx:ExV x 30)(rip fl nx:Int):∃g' m' c' l' rip',(MS.mk g m c l).flow rip fl nx x 30=(⟨g',m',c',l'⟩,rip')/\ap ((x,()),(g,rip,fl,nx,c,()),m,l,())=some ((),(g',rip',fl,nx,c',()),m',l',())/\(MS.mk g' m' c' l').ok (k+3):=by
 unfold MS.flow ap
 dsimp only
 have hop:=hx.op
 have hdv:=hx.dv
 rw[hx.szs.2.2.1 (by decide)]at hdv
 obtain⟨v1,g1,m1,c1,l1,e1,r1,ok1,I1⟩:=po_ex hs (by omega)
 obtain⟨g',m',c',l',e2,r2,ok2⟩:=sS ok1 (by omega) (n:=8) rfl hdv (hx.kd.1 (by decide)) nx I1
 have r2':ar ((da x.dst (),8,v1,()),(g1,rip,fl,nx,c1,()),m1,l1,())=_:=r2 rip fl
 rw[iD,if_pos rfl,e1,hop,aq,ak,be,aE,r1,aa]
 dsimp only
 rw[r2',aa]
 exact⟨g',m',c',l',rip,by rw[e2],rfl,ok2.mono (by omega)⟩
theorem flow_31 (hx:ExV x 31)(rip fl nx:Int):∃g' m' c' l' rip',(MS.mk g m c l).flow rip fl nx x 31=(⟨g',m',c',l'⟩,rip')/\ap ((x,()),(g,rip,fl,nx,c,()),m,l,())=some ((),(g',rip',fl,nx,c',()),m',l',())/\(MS.mk g' m' c' l').ok (k+3):=by
 unfold MS.flow ap
 dsimp only
 have hop:=hx.op
 have hsv:=hx.sv
 rw[show sSz x 31=x.size from by unfold sSz;rw[iD,hx.fr.2 (by decide),iD],hx.szs.2.2.1 (by decide)]at hsv
 obtain⟨v1,c1,l1,e1,r1,ok1,I1⟩:=go_ex hs (by omega) hsv nx
 obtain⟨g',m',c',l',e2,r2,ok2⟩:=pu_ex ok1 (by omega) nx
 rw[iD,iD,if_pos rfl,e1,hop,aq,ak,aq,ak,be,aE,r1,aa]
 dsimp only
 rw[r2,aa]
 exact⟨g',m',c',l',v1,by rw[e2],rfl,ok2.mono (by omega)⟩
theorem flow_34 (hx:ExV x 34)(rip fl nx:Int):∃g' m' c' l' rip',(MS.mk g m c l).flow rip fl nx x 34=(⟨g',m',c',l'⟩,rip')/\ap ((x,()),(g,rip,fl,nx,c,()),m,l,())=some ((),(g',rip',fl,nx,c',()),m',l',())/\(MS.mk g' m' c' l').ok (k+3):=by
 unfold MS.flow ap
 dsimp only
 have hop:=hx.op
 obtain⟨v1,g1,m1,c1,l1,e1,r1,ok1,I1⟩:=po_ex hs (by omega)
 rw[iD,iD,iD,if_pos rfl,e1,hop,aq,ak,aq,ak,aq,ak,be,aE,r1,aa]
 exact⟨g1,m1,c1,l1,v1,rfl,rfl,ok1.mono (by omega)⟩
theorem flow_32 (hx:ExV x 32)(rip fl nx:Int):∃g' m' c' l' rip',(MS.mk g m c l).flow rip fl nx x 32=(⟨g',m',c',l'⟩,rip')/\ap ((x,()),(g,rip,fl,nx,c,()),m,l,())=some ((),(g',rip',fl,nx,c',()),m',l',())/\(MS.mk g' m' c' l').ok (k+3):=by
 unfold MS.flow ap
 dsimp only
 have hop:=hx.op
 have hsv:=hx.sv
 rw[show sSz x 32=x.size from by unfold sSz;rw[iD,hx.fr.2 (by decide),iD],hx.szs.2.2.1 (by decide)]at hsv
 obtain⟨v1,c1,l1,e1,r1,ok1,I1⟩:=go_ex hs (by omega) hsv nx
 rw[iD,iD,iD,iD,if_pos rfl,e1,hop,aq,ak,aq,ak,aq,ak,aq,ak,be,aE,r1,aa]
 exact⟨g,m,c1,l1,v1,rfl,rfl,ok1.mono (by omega)⟩
theorem flow_33 (hx:ExV x 33)(rip fl nx:Int):∃g' m' c' l' rip',(MS.mk g m c l).flow rip fl nx x 33=(⟨g',m',c',l'⟩,rip')/\ap ((x,()),(g,rip,fl,nx,c,()),m,l,())=some ((),(g',rip',fl,nx,c',()),m',l',())/\(MS.mk g' m' c' l').ok (k+3):=by
 unfold MS.flow ap
 dsimp only
 have hop:=hx.op
 have hk3:=hx.kd.2.2.2.2.2.2.2.1 rfl
 have hgo:∀s:MS,s.go nx x=(aA .i64 nx x.src.imm,s):=fun s=>if_pos hk3
 have hg2:bJ ((x,()),(g,rip,fl,nx,c,()),m,l,())=some (aA .i64 nx x.src.imm,(g,rip,fl,nx,c,()),m,l,()):=by
  unfold bJ
  dsimp only
  rw[be hk3,aE]
 rw[iD,iD,iD,iD,iD,if_pos rfl,hgo,hop,aq,ak,aq,ak,aq,ak,aq,ak,aq,ak,be,aE,uJ hx.c0 hx.c1,aa]
 dsimp only
 by_cases hh:jo x.cond fl=true
 ·rw[hh,aE,hg2,aa,if_pos rfl]
  exact⟨g,m,c,l,_,rfl,rfl,hs.mono (by omega)⟩
 ·rw[Bool.eq_false_iff.2 hh,ak,iD]
  exact⟨g,m,c,l,_,rfl,rfl,hs.mono (by omega)⟩
theorem flow_41 (hx:ExV x 41)(rip fl nx:Int):∃g' m' c' l' rip',(MS.mk g m c l).flow rip fl nx x 41=(⟨g',m',c',l'⟩,rip')/\ap ((x,()),(g,rip,fl,nx,c,()),m,l,())=some ((),(g',rip',fl,nx,c',()),m',l',())/\(MS.mk g' m' c' l').ok (k+3):=by
 unfold MS.flow ap
 dsimp only
 have hop:=hx.op
 obtain⟨m',c',l',e1,r1,ok1⟩:=st_ex hs (by omega) (hs.g 7) (n:=1) rfl (rg g 0)
 have r1':aF ((aR g 7 (az .i),1,aR g 0 (az .i),()),(g,rip,fl,nx,c,()),m,l,())=_:=r1 rip fl nx
 rw[iD,iD,iD,iD,iD,iD,if_pos rfl,e1,hop,aq,ak,aq,ak,aq,ak,aq,ak,aq,ak,aq,ak,be,aE,r1',aa]
 exact⟨_,m',c',l',rip,rfl,rfl,(ok1.setA (au _)).mono (by omega)⟩
theorem flow_42 (hx:ExV x 42)(rip fl nx:Int):∃g' m' c' l' rip',(MS.mk g m c l).flow rip fl nx x 42=(⟨g',m',c',l'⟩,rip')/\ap ((x,()),(g,rip,fl,nx,c,()),m,l,())=some ((),(g',rip',fl,nx,c',()),m',l',())/\(MS.mk g' m' c' l').ok (k+3):=by
 unfold MS.flow ap
 dsimp only
 have hop:=hx.op
 obtain⟨v1,c1,l1,e1,r1,ok1,I1⟩:=ld_ex hs (by omega) (hs.g 6) (n:=1) rfl
 obtain⟨m',c',l',e2,r2,ok2⟩:=st_ex ok1 (by omega) (hs.g 7) (n:=1) rfl v1
 have r1':aN ((aR g 6 (az .i),1,()),(g,rip,fl,nx,c,()),m,l,())=_:=r1 rip fl nx
 have r2':aF ((aR g 7 (az .i),1,v1,()),(g,rip,fl,nx,c1,()),m,l1,())=_:=r2 rip fl nx
 rw[iD,iD,iD,iD,iD,iD,iD,if_pos rfl,e1,hop,aq,ak,aq,ak,aq,ak,aq,ak,aq,ak,aq,ak,aq,ak,be,aE,r1',aa]
 dsimp only
 rw[r2',aa,e2]
 exact⟨_,m',c',l',rip,rfl,rfl,((ok2.setA (au _)).setA (au _)).mono (by omega)⟩
theorem flow_38 (hx:ExV x 38)(rip fl nx:Int):∃g' m' c' l' rip',(MS.mk g m c l).flow rip fl nx x 38=(⟨g',m',c',l'⟩,rip')/\ap ((x,()),(g,rip,fl,nx,c,()),m,l,())=some ((),(g',rip',fl,nx,c',()),m',l',())/\(MS.mk g' m' c' l').ok (k+3):=by
 unfold MS.flow ap
 dsimp only
 have hop:=hx.op
 rw[iD,iD,iD,iD,iD,iD,iD,iD,if_pos rfl,hop,aq,ak,aq,ak,aq,ak,aq,ak,aq,ak,aq,ak,aq,ak,aq,ak,be,aE]
 exact⟨g,m,17,l,rip,rfl,rfl,⟨hs.m,Nat.le_trans hs.l (by omega),hs.g⟩⟩
theorem flow_43 (hx:ExV x 43)(rip fl nx:Int):∃g' m' c' l' rip',(MS.mk g m c l).flow rip fl nx x 43=(⟨g',m',c',l'⟩,rip')/\ap ((x,()),(g,rip,fl,nx,c,()),m,l,())=some ((),(g',rip',fl,nx,c',()),m',l',())/\(MS.mk g' m' c' l').ok (k+3):=by
 unfold MS.flow ap
 dsimp only
 have hop:=hx.op
 rw[iD,iD,iD,iD,iD,iD,iD,iD,iD,if_pos (by decide),hop,aq,ak,aq,ak,aq,ak,aq,ak,aq,ak,aq,ak,aq,ak,aq,ak,aq,ak]
 rw[show eqI ((43:Nat):Int) 43=true from rfl,aE,aa,ah]
 exact⟨g,m,18,l,rip,rfl,rfl,⟨hs.m,Nat.le_trans hs.l (by omega),hs.g⟩⟩
theorem flow_44 (hx:ExV x 44)(rip fl nx:Int):∃g' m' c' l' rip',(MS.mk g m c l).flow rip fl nx x 44=(⟨g',m',c',l'⟩,rip')/\ap ((x,()),(g,rip,fl,nx,c,()),m,l,())=some ((),(g',rip',fl,nx,c',()),m',l',())/\(MS.mk g' m' c' l').ok (k+3):=by
 unfold MS.flow ap
 dsimp only
 have hop:=hx.op
 rw[iD,iD,iD,iD,iD,iD,iD,iD,iD,if_pos (by decide),hop,aq,ak,aq,ak,aq,ak,aq,ak,aq,ak,aq,ak,aq,ak,aq,ak,aq,ak]
 rw[show eqI ((44:Nat):Int) 43=false from rfl,ak,aa,ah,show eqI ((44:Nat):Int) 44=true from rfl]
 exact⟨g,m,18,l,rip,rfl,rfl,⟨hs.m,Nat.le_trans hs.l (by omega),hs.g⟩⟩
theorem flow_37 (hx:ExV x 37)(rip fl nx:Int):∃g' m' c' l' rip',(MS.mk g m c l).flow rip fl nx x 37=(⟨g',m',c',l'⟩,rip')/\ap ((x,()),(g,rip,fl,nx,c,()),m,l,())=some ((),(g',rip',fl,nx,c',()),m',l',())/\(MS.mk g' m' c' l').ok (k+3):=by
 unfold MS.flow ap
 dsimp only
 have hop:=hx.op
 rw[iD,iD,iD,iD,iD,iD,iD,iD,iD,iD,hop,aq,ak,aq,ak,aq,ak,aq,ak,aq,ak,aq,ak,aq,ak,aq,ak,aq,ak]
 rw[show eqI ((37:Nat):Int) 43=false from rfl,ak,aa,ah,show eqI ((37:Nat):Int) 44=false from rfl]
 exact⟨g,m,c,l,rip,rfl,rfl,hs.mono (by omega)⟩
end
end
set_option linter.unusedSectionVars false
set_option linter.unusedVariables false
noncomputable section
theorem Ex {g:List Int}{r v:Int}{n:Nat}(hn:cl (n:Int)=true)(h15:r<=15){α:Type}(Z:List Int->Option α):
  (br (leI 4 (n:Int)) (bnd (af ((v,(n:Int),()),())) (fun x32=>Z (cD (dW 16 (az .i) g) r x32.1))) (bnd (af ((v,(n:Int),()),())) (fun x33=>bnd (af (((aR g r (az .i)),(n:Int),()),())) (fun x34=>Z (cD (dW 16 (az .i) g) r (aA .i64 (aR g r (az .i)) (aT .i64 x33.1 x34.1)))))))=Z (qf g r n v):=by
 unfold qf Go.Den.G.setA
 rw[iN,bQ _ n hn,bQ _ n hn,aa,aa,aa]
 by_cases h4:4<=n
 ·rw[ae (fu),if_pos h4]
 ·rw[ag (kb),if_neg h4]
theorem rv:aC ((0,()),())=some (false,()):=jO 0
theorem isHigh2:aC ((2,()),())=some (false,()):=jO 2
theorem tW {g:List Int}{r:Int}{n:Nat}(h:¬16<=r):bW (aR g r (az .i)) n=ll g r n:=by
 unfold ll
 rw[if_neg h]
def MS.move (s:MS)(fl nx:Int)(x:Ins)(n z:Nat):MS:=
 if n=9 then(s.rd nx x.src z).2.wr nx x.dst z (s.rd nx x.src z).1
 else if n=28 then
  let a:=s.rd nx x.dst z
  let b:=a.2.rd nx x.src z
  (b.2.wr nx x.dst z b.1).wr nx x.src z a.1
 else if n=25 then s.wr nx x.dst z (nE s.g nx x.src)
 else if n=26 then(s.rd nx x.src x.frm.toNat).2.wr nx x.dst z (s.rd nx x.src x.frm.toNat).1
 else if n=27 then(s.rd nx x.src x.frm.toNat).2.wr nx x.dst z (sx (8*x.frm.toNat-1) (s.rd nx x.src x.frm.toNat).1)
 else if n=35 then s.wr nx x.dst 1 (if jo x.cond fl=true then 1 else 0)
 else if n=36 then
  let a:=s.rd nx x.src z
  let b:=if jo x.cond fl=true then a else a.2.rd nx x.dst z
  b.2.wr nx x.dst z b.1
 else if n=39 then {s with g:=qf s.g 0 z (sx (8*(z/2)-1) (ll s.g 0 (z/2)))}
 else if n=40 then {s with g:=qf s.g 2 z (cu .i64 (sx (8*z-1) (ll s.g 0 z)) 63)}
 else s
section
variable {g:List Int}{m:List Page}{c:Int}{l:List Acc}{k:Nat}(hs:(MS.mk g m c l).ok k)(hk:k+4<=1000){x:Ins}{z:Nat}
include hs hk
theorem move_9 (hx:ExV x 9)(hz:x.size=z)(rip fl nx:Int):∃g' m' c' l',(MS.mk g m c l).move fl nx x 9 z=⟨g',m',c',l'⟩/\aB ((x,()),(g,rip,fl,nx,c,()),m,l,())=some ((),(g',rip,fl,nx,c',()),m',l',())/\(MS.mk g' m' c' l').ok (k+4):=by
 unfold MS.move aB
 dsimp only
 have hop:=hx.op
 have hz':cl (z:Int)=true:=by rw[<-hz];exact hx.szs.1 (by decide)
 have hdv:=hx.dv
 rw[hz]at hdv
 have hsv:=hx.sv
 rw[show sSz x 9=x.size from by unfold sSz;rw[iD,hx.fr.2 (by decide),iD],hz]at hsv
 obtain⟨v1,c1,l1,e1,r1,ok1,I1⟩:=r9 hs (by omega) hz' hsv nx
 obtain⟨g',m',c',l',e2,r2,ok2⟩:=sS ok1 (by omega) hz' hdv (hx.kd.1 (by decide)) nx I1
 rw[if_pos rfl,e1,hop,hz,be,aE,r1,aa]
 dsimp only
 rw[r2,aa]
 exact⟨g',m',c',l',e2,rfl,ok2.mono (by omega)⟩
theorem move_28 (hx:ExV x 28)(hz:x.size=z)(rip fl nx:Int):∃g' m' c' l',(MS.mk g m c l).move fl nx x 28 z=⟨g',m',c',l'⟩/\aB ((x,()),(g,rip,fl,nx,c,()),m,l,())=some ((),(g',rip,fl,nx,c',()),m',l',())/\(MS.mk g' m' c' l').ok (k+4):=by
 unfold MS.move aB
 dsimp only
 have hop:=hx.op
 have hz':cl (z:Int)=true:=by rw[<-hz];exact hx.szs.1 (by decide)
 have hdv:=hx.dv
 rw[hz]at hdv
 have hsv:=hx.sv
 rw[show sSz x 28=x.size from by unfold sSz;rw[iD,hx.fr.2 (by decide),iD],hz]at hsv
 have hsk:x.src.kind=1\/x.src.kind=2:= .inl (hx.kd.2.1 rfl)
 obtain⟨v1,c1,l1,e1,r1,ok1,I1⟩:=r9 hs (by omega) hz' hdv nx
 obtain⟨v2,c2,l2,e2,r2,ok2,I2⟩:=r9 ok1 (by omega) hz' hsv nx
 obtain⟨g3,m3,c3,l3,e3,r3,ok3⟩:=sS ok2 (by omega) hz' hdv (hx.kd.1 (by decide)) nx I2
 obtain⟨g',m',c',l',e4,r4,ok4⟩:=sS ok3 (by omega) hz' hsv hsk nx I1
 rw[iD,if_pos rfl,e1,hop,hz,aq,ak,be,aE,r1,aa]
 dsimp only
 rw[e2,r2,aa]
 dsimp only
 rw[e3,r3,aa]
 dsimp only
 rw[e4,r4,aa]
 exact⟨g',m',c',l',rfl,rfl,ok4⟩
theorem move_25 (hx:ExV x 25)(hz:x.size=z)(rip fl nx:Int):∃g' m' c' l',(MS.mk g m c l).move fl nx x 25 z=⟨g',m',c',l'⟩/\aB ((x,()),(g,rip,fl,nx,c,()),m,l,())=some ((),(g',rip,fl,nx,c',()),m',l',())/\(MS.mk g' m' c' l').ok (k+4):=by
 unfold MS.move aB
 dsimp only
 have hop:=hx.op
 have hz':cl (z:Int)=true:=by rw[<-hz];exact hx.szs.1 (by decide)
 have hdv:=hx.dv
 rw[hz]at hdv
 have hsv:=hx.sv
 have hb:=hsv.b (hx.kd.2.2.1 rfl).2
 obtain⟨g',m',c',l',e2,r2,ok2⟩:=sS hs (by omega) hz' hdv (hx.kd.1 (by decide)) nx (l9 (g:=g) (nx:=nx) hsv)
 have hfin:∀a:Int,a=nE g nx x.src->(bnd (ar ((da x.dst (),(z:Int),a,()),(g,rip,fl,nx,c,()),m,l,())) (fun x8=>some ((),(x8.2.1.1,rip,fl,nx,x8.2.1.2.2.2.2),x8.2.2)))=some ((),(g',rip,fl,nx,c',()),m',l',()):=by
  rintro _ rfl
  rw[r2,aa]
 rw[iD,iD,if_pos rfl,hop,hz,aq,ak,aq,ak,be,aE]
 refine⟨g',m',c',l',e2,?_,ok2.mono (by omega)⟩
 by_cases b16:x.src.base=16
 ·rw[be b16,aE]
  by_cases hi:0<=x.src.index
  ·rw[ae (fu hi),ae (cI hi (by omega))]
   exact hfin _ (by unfold nE;dsimp only;rw[if_pos b16,if_pos hi])
  ·rw[ag (kb hi)]
   exact hfin _ (by unfold nE;dsimp only;rw[if_pos b16,if_neg hi])
 ·rw[aq b16,ak]
  by_cases hb0:0<=x.src.base
  ·rw[ae (fu hb0),ae (cI hb0 (by omega))]
   by_cases hi:0<=x.src.index
   ·rw[ae (fu hi),ae (cI hi (by omega))]
    exact hfin _ (by unfold nE;dsimp only;rw[if_neg b16,if_pos hb0,if_pos hi])
   ·rw[ag (kb hi)]
    exact hfin _ (by unfold nE;dsimp only;rw[if_neg b16,if_pos hb0,if_neg hi])
  ·rw[ag (kb hb0)]
   by_cases hi:0<=x.src.index
   ·rw[ae (fu hi),ae (cI hi (by omega))]
    exact hfin _ (by unfold nE;dsimp only;rw[if_neg b16,if_neg hb0,if_pos hi])
   ·rw[ag (kb hi)]
    exact hfin _ (by unfold nE;dsimp only;rw[if_neg b16,if_neg hb0,if_neg hi])
theorem move_26 (hx:ExV x 26)(hz:x.size=z)(rip fl nx:Int):∃g' m' c' l',(MS.mk g m c l).move fl nx x 26 z=⟨g',m',c',l'⟩/\aB ((x,()),(g,rip,fl,nx,c,()),m,l,())=some ((),(g',rip,fl,nx,c',()),m',l',())/\(MS.mk g' m' c' l').ok (k+4):=by
 unfold MS.move aB
 dsimp only
 have hop:=hx.op
 have hz':cl (z:Int)=true:=by rw[<-hz];exact hx.szs.1 (by decide)
 have hdv:=hx.dv
 rw[hz]at hdv
 obtain⟨f,hf,hf'⟩:=qC (hx.fr.1 (by decide))
 have hsv:=hx.sv
 rw[show sSz x 26=x.frm from by unfold sSz;rw[iD,if_pos (by rw[hf];have:=(dM hf').1;omega)],hf]at hsv
 have hfn:x.frm.toNat=f:=by rw[hf,Int.toNat_natCast]
 obtain⟨v1,c1,l1,e1,r1,ok1,I1⟩:=r9 hs (by omega) hf' hsv nx
 obtain⟨g',m',c',l',e2,r2,ok2⟩:=sS ok1 (by omega) hz' hdv (hx.kd.1 (by decide)) nx I1
 rw[iD,iD,iD,if_pos rfl,hfn,e1,hop,hz,hf,aq,ak,aq,ak,aq,ak,be,aE,r1,aa]
 dsimp only
 rw[r2,aa]
 exact⟨g',m',c',l',e2,rfl,ok2.mono (by omega)⟩
theorem move_27 (hx:ExV x 27)(hz:x.size=z)(rip fl nx:Int):∃g' m' c' l',(MS.mk g m c l).move fl nx x 27 z=⟨g',m',c',l'⟩/\aB ((x,()),(g,rip,fl,nx,c,()),m,l,())=some ((),(g',rip,fl,nx,c',()),m',l',())/\(MS.mk g' m' c' l').ok (k+4):=by
 unfold MS.move aB
 dsimp only
 have hop:=hx.op
 have hz':cl (z:Int)=true:=by rw[<-hz];exact hx.szs.1 (by decide)
 have hdv:=hx.dv
 rw[hz]at hdv
 obtain⟨f,hf,hf'⟩:=qC (hx.fr.1 (by decide))
 have hsv:=hx.sv
 rw[show sSz x 27=x.frm from by unfold sSz;rw[iD,if_pos (by rw[hf];have:=(dM hf').1;omega)],hf]at hsv
 have hfn:x.frm.toNat=f:=by rw[hf,Int.toNat_natCast]
 obtain⟨h1,h8⟩:=dM hf'
 obtain⟨v1,c1,l1,e1,r1,ok1,I1⟩:=r9 hs (by omega) hf' hsv nx
 obtain⟨g',m',c',l',e2,r2,ok2⟩:=sS ok1 (by omega) hz' hdv (hx.kd.1 (by decide)) nx (iF (8*f-1) (by omega) v1)
 rw[iD,iD,iD,iD,if_pos rfl,hfn,e1,hop,hz,hf,aq,ak,aq,ak,aq,ak,aq,ak,be,aE,r1,aa]
 dsimp only
 rw[kY _ _ (by omega) (by omega),aa,show(8*(f:Int)-1).toNat=8*f-1 by omega,r2,aa]
 exact⟨g',m',c',l',e2,rfl,ok2.mono (by omega)⟩
theorem move_35 (hx:ExV x 35)(hz:x.size=z)(rip fl nx:Int):∃g' m' c' l',(MS.mk g m c l).move fl nx x 35 z=⟨g',m',c',l'⟩/\aB ((x,()),(g,rip,fl,nx,c,()),m,l,())=some ((),(g',rip,fl,nx,c',()),m',l',())/\(MS.mk g' m' c' l').ok (k+4):=by
 unfold MS.move aB
 dsimp only
 have hop:=hx.op
 have hdv:=hx.dv
 rw[hx.szs.2.2.2.1 rfl]at hdv
 obtain⟨g',m',c',l',e2,r2,ok2⟩:=sS hs (by omega) (n:=1) rfl hdv (hx.kd.1 (by decide)) nx (v:=if jo x.cond fl=true then 1 else 0) (by split<;>(unfold I64;omega))
 have r2':ar ((da x.dst (),1,if jo x.cond fl=true then 1 else 0,()),(g,rip,fl,nx,c,()),m,l,())=_:=r2 rip fl
 rw[iD,iD,iD,iD,iD,if_pos rfl,hop,aq,ak,aq,ak,aq,ak,aq,ak,aq,ak,be,aE,uJ hx.c0 hx.c1,aa]
 dsimp only
 rw[iG,aa,r2',aa]
 exact⟨g',m',c',l',e2,rfl,ok2.mono (by omega)⟩
theorem move_36 (hx:ExV x 36)(hz:x.size=z)(rip fl nx:Int):∃g' m' c' l',(MS.mk g m c l).move fl nx x 36 z=⟨g',m',c',l'⟩/\aB ((x,()),(g,rip,fl,nx,c,()),m,l,())=some ((),(g',rip,fl,nx,c',()),m',l',())/\(MS.mk g' m' c' l').ok (k+4):=by
 unfold MS.move aB
 dsimp only
 have hop:=hx.op
 have hz':cl (z:Int)=true:=by rw[<-hz];exact hx.szs.1 (by decide)
 have hdv:=hx.dv
 rw[hz]at hdv
 have hsv:=hx.sv
 rw[show sSz x 36=x.size from by unfold sSz;rw[iD,hx.fr.2 (by decide),iD],hz]at hsv
 obtain⟨v1,c1,l1,e1,r1,ok1,I1⟩:=r9 hs (by omega) hz' hsv nx
 have hb:∃v2 c2 l2,(if jo x.cond fl=true then(v1,MS.mk g m c1 l1)else(MS.mk g m c1 l1).rd nx x.dst z)=(v2,MS.mk g m c2 l2)/\(MS.mk g m c2 l2).ok (k+2)/\I64 v2/\
   (jo x.cond fl=true->v2=v1/\c2=c1/\l2=l1)/\(jo x.cond fl=false->∀rip fl,aw ((da x.dst (),(z:Int),()),(g,rip,fl,nx,c1,()),m,l1,())=some (v2,(g,rip,fl,nx,c2,()),m,l2,())):=by
  by_cases hh:jo x.cond fl=true
  ·rw[if_pos hh]
   exact⟨v1,c1,l1,rfl,ok1.mono (by omega),I1,fun _=>⟨rfl,rfl,rfl⟩,fun h=>by rw[hh]at h;cases h⟩
  ·rw[if_neg hh]
   obtain⟨v2,c2,l2,e2,r2,ok2,I2⟩:=r9 ok1 (by omega) hz' hdv nx
   exact⟨v2,c2,l2,e2,ok2,I2,fun h=>absurd h hh,fun _=>r2⟩
 obtain⟨v2,c2,l2,e2,ok2,I2,t1,t2⟩:=hb
 obtain⟨g',m',c',l',e3,r3,ok3⟩:=sS ok2 (by omega) hz' hdv (hx.kd.1 (by decide)) nx I2
 rw[iD,iD,iD,iD,iD,iD,if_pos rfl,e1,hop,hz,aq,ak,aq,ak,aq,ak,aq,ak,aq,ak,aq,ak,be,aE,r1,aa,uJ hx.c0 hx.c1,aa]
 dsimp only
 rw[e2]
 dsimp only
 refine⟨g',m',c',l',e3,?_,ok3.mono (by omega)⟩
 refine(Ret.bnd (Q:=fun y=>y=Sum.inl ((v2,()),(g,rip,fl,nx,c2,()),m,l2,(dX x ()),())) ?_ ?_).eq
 ·by_cases hh:jo x.cond fl=true
  ·obtain⟨rfl,rfl,rfl⟩:=t1 hh
   rw[hh,show aP true=false from rfl,ak]
   exact Ret.some rfl
  ·rw[Bool.eq_false_iff.2 hh,show aP false=true from rfl,aE,t2 (Bool.eq_false_iff.2 hh),aa]
   exact Ret.some rfl
 rintro _ rfl
 rw[ah]
 dsimp only[dX,da,cp7]
 have hw:=r3 rip fl
 unfold da at hw
 rw[hz,hw,aa]
 exact Ret.some rfl
theorem move_39 (hx:ExV x 39)(hz:x.size=z)(rip fl nx:Int):∃g' m' c' l',(MS.mk g m c l).move fl nx x 39 z=⟨g',m',c',l'⟩/\aB ((x,()),(g,rip,fl,nx,c,()),m,l,())=some ((),(g',rip,fl,nx,c',()),m',l',())/\(MS.mk g' m' c' l').ok (k+4):=by
 unfold MS.move aB
 dsimp only
 have hop:=hx.op
 have h3:z=2\/z=4\/z=8:=by have:=hx.szs.2.1 rfl;omega
 have hz':cl (z:Int)=true:=by rcases h3 with rfl|rfl|rfl<;>rfl
 have hz2:cl ((z/2:Nat):Int)=true:=by rcases h3 with rfl|rfl|rfl<;>rfl
 have hq:kG .i64 (z:Int) 2=((z/2:Nat):Int):=by rw[fU (by omega) (by decide) (by omega)];omega
 obtain⟨h1,h8⟩:=dM hz2
 have hI:=iF (8*(z/2)-1) (by omega) (ll g 0 (z/2))
 rw[iD,iD,iD,iD,iD,iD,iD,if_pos rfl,hop,hz,aq,ak,aq,ak,aq,ak,aq,ak,aq,ak,aq,ak,aq,ak,be,aE,rv,aa]
 dsimp only
 rw[ak,hq,bQ _ (z/2) hz2,aa]
 dsimp only
 rw[kY _ _ (by omega) (by omega),aa,aa,show(8*((z/2:Nat):Int)-1).toNat=8*(z/2)-1 by omega,tW (by decide)]
 dsimp only
 rw[ak]
 refine⟨_,m,c,l,rfl,?_,⟨hs.m,Nat.le_trans hs.l (by omega),lH (g:=g) (r:=0) hs.g hI hz'⟩⟩
 exact Ex hz' (by decide) (fun g'=>some ((),(g',rip,fl,nx,c,()),m,l,()))
theorem move_40 (hx:ExV x 40)(hz:x.size=z)(rip fl nx:Int):∃g' m' c' l',(MS.mk g m c l).move fl nx x 40 z=⟨g',m',c',l'⟩/\aB ((x,()),(g,rip,fl,nx,c,()),m,l,())=some ((),(g',rip,fl,nx,c',()),m',l',())/\(MS.mk g' m' c' l').ok (k+4):=by
 unfold MS.move aB
 dsimp only
 have hop:=hx.op
 have hz':cl (z:Int)=true:=by rw[<-hz];exact hx.szs.1 (by decide)
 have hdv:=hx.dv
 rw[hz]at hdv
 obtain⟨h1,h8⟩:=dM hz'
 have hI:=iF (8*z-1) (by omega) (ll g 0 z)
 have hI2:I64 (cu .i64 (sx (8*z-1) (ll g 0 z)) 63):=by rw[EB hI];split<;>(unfold I64;omega)
 rw[iD,iD,iD,iD,iD,iD,iD,iD,if_pos rfl,hop,hz,aq,ak,aq,ak,aq,ak,aq,ak,aq,ak,aq,ak,aq,ak,aq,ak,be,aE,rv,aa]
 dsimp only
 rw[ak,bQ _ z hz',aa]
 dsimp only
 rw[kY _ _ (by omega) (by omega),aa,isHigh2,aa,show(8*(z:Int)-1).toNat=8*z-1 by omega,tW (by decide)]
 dsimp only
 rw[ak]
 refine⟨_,m,c,l,rfl,?_,⟨hs.m,Nat.le_trans hs.l (by omega),lH (g:=g) (r:=2) hs.g hI2 hz'⟩⟩
 exact Ex hz' (by decide) (fun g'=>some ((),(g',rip,fl,nx,c,()),m,l,()))
end
end
noncomputable section
theorem zero1 (v:Int):af ((v,1,()),())=some (bW v 1,()):=bQ v 1 rfl
theorem set_c0 {g:List Int}{v:Int}{n:Nat}(hn:cl (n:Int)=true){α:Type}(Z:List Int->Option α):
  (br (leI 4 (n:Int)) (bnd (af ((v,(n:Int),()),())) (fun x32=>Z (cD (dW 16 (az .i) g) 0 x32.1))) (bnd (af ((v,(n:Int),()),())) (fun x33=>bnd (some (ll g 0 n,())) (fun x34=>Z (cD (dW 16 (az .i) g) 0 (aA .i64 (aR g 0 (az .i)) (aT .i64 x33.1 x34.1)))))))=Z (qf g 0 n v):=by
 have:=Ex (g:=g) (r:=0) (v:=v) hn (by decide) Z
 rw[bQ (aR g 0 (az .i)) n hn,tW (by decide)]at this
 exact this
def setF {α:Type}(g:List Int)(r:Int)(n:Nat)(v:Int)(Z:List Int->Option α):Option α:=
 (bnd (aC ((r,()),())) (fun x8=>br x8.1 (br (inR (aT .i64 r 16) 16) (bnd (af ((v,1,()),())) (fun x9=>Z (cD (dW 16 (az .i) g) (aT .i64 r 16) (ior .i64 (gR .i64 (aR g (aT .i64 r 16) (az .i)) 65280) (dE .i64 x9.1 8))))) none) (br (leI 4 (n:Int)) (bnd (af ((v,(n:Int),()),())) (fun x10=>br (inR r 16) (Z (cD (dW 16 (az .i) g) r x10.1)) none)) (br (inR r 16) (br (inR r 16) (bnd (af ((v,(n:Int),()),())) (fun x11=>bnd (af (((aR g r (az .i)),(n:Int),()),())) (fun x12=>br (inR r 16) (Z (cD (dW 16 (az .i) g) r (aA .i64 (aR g r (az .i)) (aT .i64 x11.1 x12.1)))) none))) none) none))))
theorem zf {g:List Int}{r v:Int}{n:Nat}(hn:cl (n:Int)=true)(hr:sd r n){α:Type}(Z:List Int->Option α):setF g r n v Z=Z (qf g r n v):=set_m hn hr Z
def upZ (z:Nat):Int:=if z=1 then 16 else 2
def MS.wide (s:MS)(fl nx:Int)(x:Ins)(n z:Nat):MS×Int:=
 let b:=s.rd nx x.src z
 if n=13\/n=14 then
  let r:=rH n z (ll s.g 0 z) b.1 fl
  ({b.2 with g:=qf (qf s.g 0 z r.1) (upZ z) z r.2.1},r.2.2)
 else
  let r:=ur n z (ll s.g (upZ z) z) (ll s.g 0 z) b.1
  ({b.2 with g:=qf (qf s.g 0 z r.1) (upZ z) z r.2.1,code:=if r.2.2=false/\b.2.code=0 then 16 else b.2.code},fl)
theorem HH (z:Nat):jD (((z:Int),()),())=some (upZ z,()):=by
 unfold jD upZ
 dsimp only
 by_cases h:z=1
 ·rw[be,aE,if_pos h]
 ·rw[aq,ak,if_neg h]
theorem pO (z:Nat):sd (upZ z) z:=by
 unfold upZ sd
 split<;>omega
theorem wide_m {g:List Int}{m:List Page}{c:Int}{l:List Acc}{k:Nat}(hs:(MS.mk g m c l).ok k)(hk:k+4<=1000){x:Ins}{n z:Nat}(hx:ExV x n)(hn:13<=n/\n<=16)(hz:x.size=z)
  {fl:Int} (hI:I64 fl) (hf:bU fl=true) (rip nx:Int):
  ∃g' m' c' l' fl',(MS.mk g m c l).wide fl nx x n z=(⟨g',m',c',l'⟩,fl')/\df ((x,()),(g,rip,fl,nx,c,()),m,l,())=some ((),(g',rip,fl',nx,c',()),m',l',())/\(MS.mk g' m' c' l').ok (k+4)/\I64 fl'/\bU fl'=true:=by
 have hz':cl (z:Int)=true:=by rw[<-hz];exact hx.szs.1 (by omega)
 have hsv:=hx.sv
 rw[show sSz x n=x.size from by unfold sSz;rw[iN,hx.fr.2 (by omega),iD],hz]at hsv
 obtain⟨v1,c1,l1,e1,r1,ok1,I1⟩:=r9 hs (by omega) hz' hsv nx
 have hgI:∀r,I64 (ll g r z):=fun r=>uG (g:=g) hs.g hz'
 unfold MS.wide df
 dsimp only
 have hop:=hx.op
 rw[e1,hop,hz,r1,aa,HH,aa]
 dsimp only
 have hb:br (eqI (n:Int) 13) (some true) (some (eqI (n:Int) 14))=some (decide (n=13\/n=14)):=by
  by_cases a:n=13
  ·rw[be,aE,dT]
  ·rw[aq,ak]
   by_cases b:n=14
   ·rw[be,dT]
   ·rw[aq,dF]
 rw[hb,aa]
 by_cases hm:n=13\/n=14
 ·rw[decide_eq_true hm,aE,rv,aa,if_pos hm]
  dsimp only
  rw[ak,bQ _ z hz',aa,tW (by decide)]
  dsimp only
  rw[rJ hz' (hgI 0) I1 hI hf,aa,aa]
  dsimp only
  rw[ak]
  obtain⟨o1,o2,o3,o4⟩:=va (op:=n) (n:=z) (a:=ll g 0 z) (b:=v1) hI hf
  obtain⟨p,hp⟩:∃p,p=rH n z (ll g 0 z) v1 fl:=⟨_,rfl⟩
  rw[<-hp]at o1 o2 o3 o4|-
  obtain⟨lo,hi,f'⟩:=p
  clear hp
  dsimp only at o1 o2 o3 o4|-
  refine⟨_,m,c1,l1,f',rfl,?_,⟨ok1.m,Nat.le_trans ok1.l (by omega),lH (g:=qf g 0 z lo) (lH (g:=g) hs.g o1 hz') o2 hz'⟩,o4,o3⟩
  exact(set_c0 (g:=g) (v:=lo) hz' (fun g'=>setF g' (upZ z) z hi (fun g''=>some ((),(g'',rip,f',nx,c1,()),m,l1,())))).trans (zf hz' (pO z) _)
 ·rw[decide_eq_false hm,ak,if_neg hm]
  obtain⟨o1,o2⟩:=zO (op:=n) (n:=z) (hi:=ll g (upZ z) z) (lo:=ll g 0 z) (d:=v1)
  have hd:=CN (op:=n) (n:=z) (hi:=ll g (upZ z) z) (lo:=ll g 0 z) (d:=v1) hz' (hgI _) (hgI _) I1
  obtain⟨p,hp⟩:∃p,p=ur n z (ll g (upZ z) z) (ll g 0 z) v1:=⟨_,rfl⟩
  rw[<-hp]at o1 o2 hd|-
  obtain⟨q,r,ok⟩:=p
  clear hp
  dsimp only at o1 o2 hd|-
  obtain⟨c2,hc2⟩:∃c2,c2=if ok=false/\c1=0 then 16 else c1:=⟨_,rfl⟩
  rw[<-hc2]
  refine⟨_,m,c2,l1,fl,rfl,?_,⟨ok1.m,Nat.le_trans ok1.l (by omega),lH (g:=qf g 0 z q) (lH (g:=g) hs.g o1 hz') o2 hz'⟩,hI,hf⟩
  have hbr:br (aP ok) (some (eqI c1 0)) (some false)=some (decide (ok=false/\c1=0)):=by
   cases ok with
   |true=>rfl
   |false=>rw[show aP false=true from rfl,aE];unfold eqI;simp only[true_and]
  rw[jO,aa]
  dsimp only
  have hget:ll g (upZ z) z=if z=1 then bW (cu .i64 (aR g 0 (az .i)) 8) 1 else bW (aR g 2 (az .i)) z:=by
   unfold ll upZ
   by_cases h:z=1
   ·rw[if_pos h,if_pos h,if_pos (by decide)];rfl
   ·rw[if_neg h,if_neg h,iD]
  by_cases h1:z=1
  ·rw[if_pos h1]at hget
   have hu:upZ z=16:=if_pos h1
   have hhi:decide (16<=upZ z/\upZ z<=19)=true:=by rw[hu];decide
   rw[hhi,aE,ae (show inR (aT .i64 (upZ z) 16) 16=true by rw[hu];rfl),show aT .i64 (upZ z) 16=0 by rw[hu];rfl,zero1 (cu .i64 (aR g 0 (az .i)) 8),aa,<-hget]
   dsimp only
   rw[rv,aa]
   dsimp only
   rw[ak,bQ _ z hz',aa,tW (r:=0) (by decide)]
   dsimp only
   rw[hd,aa]
   dsimp only
   rw[hbr,aa]
   refine(Ret.bnd (Q:=fun y=>y=Sum.inl ((upZ z,q,r,()),(g,rip,fl,nx,c2,()),m,l1,(dX x ()),())) ?_ ?_).eq
   ·by_cases hcc:ok=false/\c1=0
    ·rw[decide_eq_true hcc,aE,hc2,if_pos hcc]
     exact Ret.some rfl
    ·rw[decide_eq_false hcc,ak,hc2,if_neg hcc]
     exact Ret.some rfl
   rintro _ rfl
   rw[ah]
   dsimp only[dX,da]
   rw[aa,hz]
   dsimp only
   rw[ak]
   refine Ret.of_eq ((Ex (g:=g) (r:=0) (v:=q) hz' (by decide) (fun g'=>setF g' (upZ z) z r (fun g''=>some ((),(g'',rip,fl,nx,c2,()),m,l1,())))).trans (zf hz' (pO z) _)) rfl
  ·rw[if_neg h1]at hget
   have hu:upZ z=2:=if_neg h1
   have hhi:decide (16<=upZ z/\upZ z<=19)=false:=by rw[hu];decide
   rw[hhi,ak,ae (show inR (upZ z) 16=true by rw[hu];rfl),bQ (aR g (upZ z) (az .i)) z hz',aa,show bW (aR g (upZ z) (az .i)) z=ll g (upZ z) z by rw[hget,hu]]
   dsimp only
   rw[rv,aa]
   dsimp only
   rw[ak,bQ _ z hz',aa,tW (r:=0) (by decide)]
   dsimp only
   rw[hd,aa]
   dsimp only
   rw[hbr,aa]
   refine(Ret.bnd (Q:=fun y=>y=Sum.inl ((upZ z,q,r,()),(g,rip,fl,nx,c2,()),m,l1,(dX x ()),())) ?_ ?_).eq
   ·by_cases hcc:ok=false/\c1=0
    ·rw[decide_eq_true hcc,aE,hc2,if_pos hcc]
     exact Ret.some rfl
    ·rw[decide_eq_false hcc,ak,hc2,if_neg hcc]
     exact Ret.some rfl
   rintro _ rfl
   rw[ah]
   dsimp only[dX,da]
   rw[aa,hz]
   dsimp only
   rw[ak]
   refine Ret.of_eq ((Ex (g:=g) (r:=0) (v:=q) hz' (by decide) (fun g'=>setF g' (upZ z) z r (fun g''=>some ((),(g'',rip,fl,nx,c2,()),m,l1,())))).trans (zf hz' (pO z) _)) rfl
end
noncomputable section
def mvB (n:Nat):Bool:=decide (n=9\/n=28\/n=25\/n=26\/n=27\/n=35\/n=36\/n=39\/n=40)
def wdB (n:Nat):Bool:=decide (n=13\/n=14\/n=15\/n=16)
def fwB (n:Nat):Bool:=decide (n=29\/n=30\/n=31\/n=34\/n=32\/n=33\/n=41\/n=42\/n=38\/n=43\/n=44\/n=37)
def exM (g:List Int)(rip fl:Int)(m:List Page)(x:Ins)(n z:Nat):MS×Int×Int:=
 let nx:=aA .i64 rip x.len
 let s:MS:=⟨g,m,0,[]⟩
 if mvB n=true then(s.move fl nx x n z,nx,fl)
 else if wdB n=true then((s.wide fl nx x n z).1,nx,(s.wide fl nx x n z).2)
 else if fwB n=true then((s.flow nx fl nx x n).1,(s.flow nx fl nx x n).2,fl)
 else((s.reck nx fl x n z).1,nx,(s.reck nx fl x n z).2)
def exR (g:List Int)(rip fl:Int)(m:List Page)(r:MS×Int×Int):((List Int×Int×Int×Unit)×Unit×Int×Unit)×List Page×List Acc×Unit:=
 if r.1.code≠0 then(((g,rip,fl,()),(),r.1.code,()),m,r.1.l,())else(((r.1.g,r.2.1,r.2.2,()),(),0,()),r.1.m,r.1.l,())
abbrev exT (g:List Int)(rip fl:Int)(m:List Page)(x:Ins):(List Int×Int×Int×Unit)×(List Page×Unit)×(Int×Int×Int×Int×Int×Int×Int×Int×Int×Int×Int×Int×Int×Int×Int×Int×Int×Int×Int×Unit)×(List Int×Int×Int×Unit)×Unit×TM:=
 (((g,rip,fl,()):List Int×Int×Int×Unit),(m,()),(dX x ()),(([]:List Int),0,0,()),(),(g,aA .i64 rip x.len,fl,aA .i64 rip x.len,0,()),m,([]:List Acc),())
theorem exec_m {g:List Int}{rip fl:Int}{m:List Page}{x:Ins}{n z:Nat}(hm:MemT m)(hg:iH g)(hI:I64 fl)(hf:bU fl=true)(hx:ExV x n)(hz:x.size=z):
  kM (((g,rip,fl,()),(m,()),x,()),())=some (exR g rip fl m (exM g rip fl m x n z))/\(exM g rip fl m x n z).1.ok 4/\bU (exM g rip fl m x n z).2.2=true/\I64 (exM g rip fl m x n z).2.2:=by
 have hs:(MS.mk g m 0 []).ok 0:=⟨hm,Nat.le_refl 0,hg⟩
 have hop:=hx.op
 have h1:=hx.n1
 have h2:=hx.n2
 have Do:(yE (dX x ()))=x:=rfl
 have key:∃g' m' c' l' rip' fl',exM g rip fl m x n z=(⟨g',m',c',l'⟩,rip',fl')/\(MS.mk g' m' c' l').ok 4/\bU fl'=true/\I64 fl'/\
   (mvB n=true->rip'=aA .i64 rip x.len/\fl'=fl/\aB ((x,()),(g,aA .i64 rip x.len,fl,aA .i64 rip x.len,0,()),m,([]:List Acc),())=some ((),(g',aA .i64 rip x.len,fl,aA .i64 rip x.len,c',()),m',l',()))/\
   (mvB n=false->wdB n=true->rip'=aA .i64 rip x.len/\df ((x,()),(g,aA .i64 rip x.len,fl,aA .i64 rip x.len,0,()),m,([]:List Acc),())=some ((),(g',aA .i64 rip x.len,fl',aA .i64 rip x.len,c',()),m',l',()))/\
   (mvB n=false->wdB n=false->fwB n=true->fl'=fl/\ap ((x,()),(g,aA .i64 rip x.len,fl,aA .i64 rip x.len,0,()),m,([]:List Acc),())=some ((),(g',rip',fl,aA .i64 rip x.len,c',()),m',l',()))/\
   (mvB n=false->wdB n=false->fwB n=false->rip'=aA .i64 rip x.len/\cF ((x,()),(g,aA .i64 rip x.len,fl,aA .i64 rip x.len,0,()),m,([]:List Acc),())=some ((),(g',aA .i64 rip x.len,fl',aA .i64 rip x.len,c',()),m',l',())):=by
  unfold exM
  dsimp only
  cases hmv:mvB n with
  |true=>
   rw[if_pos rfl]
   have hn:=of_decide_eq_true hmv
   have hmove:∃g' m' c' l',(MS.mk g m 0 []).move fl (aA .i64 rip x.len) x n z=⟨g',m',c',l'⟩/\aB ((x,()),(g,aA .i64 rip x.len,fl,aA .i64 rip x.len,0,()),m,[],())=some ((),(g',aA .i64 rip x.len,fl,aA .i64 rip x.len,c',()),m',l',())/\(MS.mk g' m' c' l').ok (0+4):=by
    rcases hn with rfl|rfl|rfl|rfl|rfl|rfl|rfl|rfl|rfl
    ·exact move_9 hs (by decide) hx hz _ fl _
    ·exact move_28 hs (by decide) hx hz _ fl _
    ·exact move_25 hs (by decide) hx hz _ fl _
    ·exact move_26 hs (by decide) hx hz _ fl _
    ·exact move_27 hs (by decide) hx hz _ fl _
    ·exact move_35 hs (by decide) hx hz _ fl _
    ·exact move_36 hs (by decide) hx hz _ fl _
    ·exact move_39 hs (by decide) hx hz _ fl _
    ·exact move_40 hs (by decide) hx hz _ fl _
   obtain⟨g',m',c',l',e,r,ok⟩:=hmove
   exact⟨g',m',c',l',_,fl,by rw[e],ok,hf,hI,fun _=>⟨rfl,rfl,r⟩,(fun h=>by cases h),(fun h=>by cases h),(fun h=>by cases h)⟩
  |false=>
   rw[iD]
   cases hwd:wdB n with
   |true=>
    rw[if_pos rfl]
    have hn:=of_decide_eq_true hwd
    obtain⟨g',m',c',l',fl',e,r,ok,fI,ff⟩:=wide_m hs (by decide) hx (by omega) hz hI hf (aA .i64 rip x.len) (aA .i64 rip x.len)
    exact⟨g',m',c',l',_,fl',by rw[e],ok,ff,fI,(fun h=>by cases h),fun _ _=>⟨rfl,r⟩,(fun _ h=>by cases h),(fun _ h=>by cases h)⟩
   |false=>
    rw[iD]
    cases hfw:fwB n with
    |true=>
     rw[if_pos rfl]
     have hn:=of_decide_eq_true hfw
     have hflow:∃g' m' c' l' rip',(MS.mk g m 0 []).flow (aA .i64 rip x.len) fl (aA .i64 rip x.len) x n=(⟨g',m',c',l'⟩,rip')/\ap ((x,()),(g,aA .i64 rip x.len,fl,aA .i64 rip x.len,0,()),m,[],())=some ((),(g',rip',fl,aA .i64 rip x.len,c',()),m',l',())/\(MS.mk g' m' c' l').ok (0+3):=by
      rcases hn with rfl|rfl|rfl|rfl|rfl|rfl|rfl|rfl|rfl|rfl|rfl|rfl
      ·exact flow_29 hs (by decide) hx _ fl _
      ·exact flow_30 hs (by decide) hx _ fl _
      ·exact flow_31 hs (by decide) hx _ fl _
      ·exact flow_34 hs (by decide) hx _ fl _
      ·exact flow_32 hs (by decide) hx _ fl _
      ·exact flow_33 hs (by decide) hx _ fl _
      ·exact flow_41 hs (by decide) hx _ fl _
      ·exact flow_42 hs (by decide) hx _ fl _
      ·exact flow_38 hs (by decide) hx _ fl _
      ·exact flow_43 hs (by decide) hx _ fl _
      ·exact flow_44 hs (by decide) hx _ fl _
      ·exact flow_37 hs (by decide) hx _ fl _
     obtain⟨g',m',c',l',rip',e,r,ok⟩:=hflow
     exact⟨g',m',c',l',rip',fl,by rw[e],ok.mono (by decide),hf,hI,(fun h=>by cases h),(fun _ h=>by cases h),fun _ _ _=>⟨rfl,r⟩,(fun _ _ h=>by cases h)⟩
    |false=>
     rw[iD]
     have n1:=of_decide_eq_false hmv
     have n2:=of_decide_eq_false hwd
     have n3:=of_decide_eq_false hfw
     obtain⟨g',m',c',l',fl',e,r,ok,fI,ff⟩:=reck_m hs (by decide) hx (by omega) hz hI hf (aA .i64 rip x.len)
     exact⟨g',m',c',l',_,fl',by rw[e],ok.mono (by decide),ff,fI,(fun h=>by cases h),(fun _ h=>by cases h),(fun _ _ h=>by cases h),fun _ _ _=>⟨rfl,r _⟩⟩
 obtain⟨g',m',c',l',rip',fl',e,ok,ff,fI,k1,k2,k3,k4⟩:=key
 rw[e]
 refine⟨?_,ok,ff,fI⟩
 unfold kM
 dsimp only
 rw[nX m (by have:=hm.len;omega),aa,hop]
 dsimp only
 refine(Ret.bnd (Q:=fun y=>y=Sum.inl (((n:Int),mvB n,()),exT g rip fl m x)) ?_ ?_).eq
 ·by_cases h9:n=9
  ·rw[be,aE,show mvB n=true from dT]
   exact Ret.some rfl
  rw[aq,ak]
  refine Ret.bnd (Q:=fun y=>y=Sum.inl (((n:Int),mvB n,()),exT g rip fl m x)) ?_ (by rintro _ rfl;rw[ah];exact Ret.some rfl)
  by_cases h28:n=28
  ·rw[be,aE,show mvB n=true from dT]
   exact Ret.some rfl
  rw[aq,ak]
  refine Ret.bnd (Q:=fun y=>y=Sum.inl (((n:Int),mvB n,()),exT g rip fl m x)) ?_ (by rintro _ rfl;rw[ah];exact Ret.some rfl)
  by_cases h25:n=25
  ·rw[be,aE,show mvB n=true from dT]
   exact Ret.some rfl
  rw[aq,ak]
  refine Ret.bnd (Q:=fun y=>y=Sum.inl (((n:Int),mvB n,()),exT g rip fl m x)) ?_ (by rintro _ rfl;rw[ah];exact Ret.some rfl)
  by_cases h26:n=26
  ·rw[be,aE,show mvB n=true from dT]
   exact Ret.some rfl
  rw[aq,ak]
  refine Ret.bnd (Q:=fun y=>y=Sum.inl (((n:Int),mvB n,()),exT g rip fl m x)) ?_ (by rintro _ rfl;rw[ah];exact Ret.some rfl)
  by_cases h27:n=27
  ·rw[be,aE,show mvB n=true from dT]
   exact Ret.some rfl
  rw[aq,ak]
  refine Ret.bnd (Q:=fun y=>y=Sum.inl (((n:Int),mvB n,()),exT g rip fl m x)) ?_ (by rintro _ rfl;rw[ah];exact Ret.some rfl)
  by_cases h35:n=35
  ·rw[be,aE,show mvB n=true from dT]
   exact Ret.some rfl
  rw[aq,ak]
  refine Ret.bnd (Q:=fun y=>y=Sum.inl (((n:Int),mvB n,()),exT g rip fl m x)) ?_ (by rintro _ rfl;rw[ah];exact Ret.some rfl)
  by_cases h36:n=36
  ·rw[be,aE,show mvB n=true from dT]
   exact Ret.some rfl
  rw[aq,ak]
  refine Ret.bnd (Q:=fun y=>y=Sum.inl (((n:Int),mvB n,()),exT g rip fl m x)) ?_ (by rintro _ rfl;rw[ah];exact Ret.some rfl)
  by_cases h39:n=39
  ·rw[be,aE,show mvB n=true from dT]
   exact Ret.some rfl
  rw[aq,ak]
  rw[show eqI (n:Int) 40=mvB n from by unfold eqI;unfold mvB;rw[Bool.eq_iff_iff,decide_eq_true_eq,decide_eq_true_eq];omega]
  exact Ret.some rfl
 rintro _ rfl
 rw[ah]
 dsimp only[d6,p6,exT]
 rw[Do]
 refine Ret.bnd (Q:=fun y=>y=Sum.inl ((),((g,rip,fl,()):List Int×Int×Int×Unit),(m,()),(([]:List Int),0,0,()),(),(g',rip',fl',aA .i64 rip x.len,c',()),m',l',())) ?_ ?_
 ·cases hmv:mvB n with
  |true=>
   obtain⟨rfl,rfl,r⟩:=k1 hmv
   rw[aE,r,aa]
   exact Ret.some rfl
  |false=>
   rw[ak]
   refine Ret.bnd (Q:=fun y=>y=Sum.inl (((n:Int),wdB n,()),exT g rip fl m x)) ?_ ?_
   ·by_cases h13:n=13
    ·rw[be,aE,show wdB n=true from dT]
     exact Ret.some rfl
    rw[aq,ak]
    refine Ret.bnd (Q:=fun y=>y=Sum.inl (((n:Int),wdB n,()),exT g rip fl m x)) ?_ (by rintro _ rfl;rw[ah];exact Ret.some rfl)
    by_cases h14:n=14
    ·rw[be,aE,show wdB n=true from dT]
     exact Ret.some rfl
    rw[aq,ak]
    refine Ret.bnd (Q:=fun y=>y=Sum.inl (((n:Int),wdB n,()),exT g rip fl m x)) ?_ (by rintro _ rfl;rw[ah];exact Ret.some rfl)
    by_cases h15:n=15
    ·rw[be,aE,show wdB n=true from dT]
     exact Ret.some rfl
    rw[aq,ak]
    rw[show eqI (n:Int) 16=wdB n from by unfold eqI;unfold wdB;rw[Bool.eq_iff_iff,decide_eq_true_eq,decide_eq_true_eq];omega]
    exact Ret.some rfl
   rintro _ rfl
   rw[ah]
   dsimp only[d6,p6,exT]
   rw[Do]
   refine Ret.bnd (Q:=fun y=>y=Sum.inl ((),((g,rip,fl,()):List Int×Int×Int×Unit),(m,()),(([]:List Int),0,0,()),(),(g',rip',fl',aA .i64 rip x.len,c',()),m',l',())) ?_ (by rintro _ rfl;rw[ah];exact Ret.some rfl)
   cases hwd:wdB n with
   |true=>
    obtain⟨rfl,r⟩:=k2 hmv hwd
    rw[aE,r,aa]
    exact Ret.some rfl
   |false=>
    rw[ak]
    refine Ret.bnd (Q:=fun y=>y=Sum.inl ((fwB n,()),exT g rip fl m x)) ?_ ?_
    ·by_cases h29:n=29
     ·rw[be,aE,show fwB n=true from dT]
      exact Ret.some rfl
     rw[aq,ak]
     refine Ret.bnd (Q:=fun y=>y=Sum.inl ((fwB n,()),exT g rip fl m x)) ?_ (by rintro _ rfl;rw[ah];exact Ret.some rfl)
     by_cases h30:n=30
     ·rw[be,aE,show fwB n=true from dT]
      exact Ret.some rfl
     rw[aq,ak]
     refine Ret.bnd (Q:=fun y=>y=Sum.inl ((fwB n,()),exT g rip fl m x)) ?_ (by rintro _ rfl;rw[ah];exact Ret.some rfl)
     by_cases h31:n=31
     ·rw[be,aE,show fwB n=true from dT]
      exact Ret.some rfl
     rw[aq,ak]
     refine Ret.bnd (Q:=fun y=>y=Sum.inl ((fwB n,()),exT g rip fl m x)) ?_ (by rintro _ rfl;rw[ah];exact Ret.some rfl)
     by_cases h34:n=34
     ·rw[be,aE,show fwB n=true from dT]
      exact Ret.some rfl
     rw[aq,ak]
     refine Ret.bnd (Q:=fun y=>y=Sum.inl ((fwB n,()),exT g rip fl m x)) ?_ (by rintro _ rfl;rw[ah];exact Ret.some rfl)
     by_cases h32:n=32
     ·rw[be,aE,show fwB n=true from dT]
      exact Ret.some rfl
     rw[aq,ak]
     refine Ret.bnd (Q:=fun y=>y=Sum.inl ((fwB n,()),exT g rip fl m x)) ?_ (by rintro _ rfl;rw[ah];exact Ret.some rfl)
     by_cases h33:n=33
     ·rw[be,aE,show fwB n=true from dT]
      exact Ret.some rfl
     rw[aq,ak]
     refine Ret.bnd (Q:=fun y=>y=Sum.inl ((fwB n,()),exT g rip fl m x)) ?_ (by rintro _ rfl;rw[ah];exact Ret.some rfl)
     by_cases h41:n=41
     ·rw[be,aE,show fwB n=true from dT]
      exact Ret.some rfl
     rw[aq,ak]
     refine Ret.bnd (Q:=fun y=>y=Sum.inl ((fwB n,()),exT g rip fl m x)) ?_ (by rintro _ rfl;rw[ah];exact Ret.some rfl)
     by_cases h42:n=42
     ·rw[be,aE,show fwB n=true from dT]
      exact Ret.some rfl
     rw[aq,ak]
     refine Ret.bnd (Q:=fun y=>y=Sum.inl ((fwB n,()),exT g rip fl m x)) ?_ (by rintro _ rfl;rw[ah];exact Ret.some rfl)
     by_cases h38:n=38
     ·rw[be,aE,show fwB n=true from dT]
      exact Ret.some rfl
     rw[aq,ak]
     refine Ret.bnd (Q:=fun y=>y=Sum.inl ((fwB n,()),exT g rip fl m x)) ?_ (by rintro _ rfl;rw[ah];exact Ret.some rfl)
     by_cases h43:n=43
     ·rw[be,aE,show fwB n=true from dT]
      exact Ret.some rfl
     rw[aq,ak]
     refine Ret.bnd (Q:=fun y=>y=Sum.inl ((fwB n,()),exT g rip fl m x)) ?_ (by rintro _ rfl;rw[ah];exact Ret.some rfl)
     by_cases h44:n=44
     ·rw[be,aE,show fwB n=true from dT]
      exact Ret.some rfl
     rw[aq,ak]
     rw[show eqI (n:Int) 37=fwB n from by unfold eqI;unfold fwB;rw[Bool.eq_iff_iff,decide_eq_true_eq,decide_eq_true_eq];omega]
     exact Ret.some rfl
    rintro _ rfl
    rw[ah]
    dsimp only[d6,p6,exT]
    rw[Do]
    refine Ret.bnd (Q:=fun y=>y=Sum.inl ((),((g,rip,fl,()):List Int×Int×Int×Unit),(m,()),(([]:List Int),0,0,()),(),(g',rip',fl',aA .i64 rip x.len,c',()),m',l',())) ?_ (by rintro _ rfl;rw[ah];exact Ret.some rfl)
    cases hfw:fwB n with
    |true=>
     obtain⟨rfl,r⟩:=k3 hmv hwd hfw
     rw[aE,r,aa]
     exact Ret.some rfl
    |false=>
     obtain⟨rfl,r⟩:=k4 hmv hwd hfw
     rw[ak,r,aa]
     exact Ret.some rfl
 rintro _ rfl
 rw[ah]
 dsimp only[d5,p5,d6,d7]
 unfold exR
 dsimp only
 by_cases hc:c'=0
 ·rw[hc,be rfl,bD,ak,iD]
  exact Ret.some rfl
 ·rw[aq hc,bS,aE,if_pos hc,nX m (by have:=hm.len;omega),aa]
  exact Ret.some rfl
end
noncomputable section
theorem od {c f:Int}(h0:0<=c)(h1:c<=15):dq ((c,f,()),())=some (jo c f,()):=by
 unfold dq
 dsimp only
 have hs:∀b,aP (eqI (cy .i64 f b) 0)=mc f b:=fun b=>by
  unfold mc
  cases eqI (cy .i64 f b) 0<;>rfl
 simp only[hs]
 have o1:br (mc f 1) (some true) (some (mc f 64))=some (mc f 1||mc f 64):=by cases mc f 1<;>rfl
 have o2:br (mc f 64) (some true) (some (aP (eqB (mc f 128) (mc f 2048))))=some (mc f 64||(mc f 128 != mc f 2048)):=by rw[neB];cases mc f 64<;>rfl
 rw[o1,aa,o2,aa,fU h0 (by decide) (by omega),ae (cI),dH h0,neB]
 congr 2
theorem ec (a b:Int):aW ((a,b,()),())=some (aA .i64 a b,()):=by
 unfold aW
 dsimp only
 congr 2
 unfold aj
 rw[Cr]
 unfold aA
 refine l5 ?_
 rw[fg,fg]
 omega
theorem rD {g:List Int}{rip fl r:Int}{n:Nat}(hg:iH g)(hn:cl (n:Int)=true)(hr:sd r n):eg (((g,rip,fl,()),r,(n:Int),()),())=some (ll g r n,()):=by
 unfold sd at hr
 unfold eg ll
 dsimp only
 by_cases h16:16<=r
 ·rw[fu h16,aE,if_pos h16,bn,ae (cI)]
  have h1:=bw (v:=aj .i64 (cu .u64 (aj .u64 (aR g (r-16) (az .i))) 8)) (iA _) 1 rfl
  have h1':an (((aj .i64 (cu .u64 (aj .u64 (aR g (r-16) (az .i))) 8)),1,()),())=_:=h1
  rw[h1',aa]
  have hI:=hg (r-16)
  obtain⟨v,hv⟩:∃v,v=aR g (r-16) (az .i):=⟨_,rfl⟩
  rw[<-hv]
  have hI:I64 v:=by rw[hv];exact hI
  unfold I64 at hI
  have e:bW (aj .i64 (cu .u64 (aj .u64 v) 8)) 1=bW (cu .i64 v 8) 1:=by
   unfold bW
   rw[iD,iD]
   have hs:cu .u64 (aj .u64 v) 8=aj .u64 v/256:=so _ 8 (by decide)
   have hs2:cu .i64 v 8=v/256:=by
    unfold cu
    rw[show(2:Int)^min (Int.toNat 8) IntKind.i64.bits=256 from rfl,Int.fdiv_eq_ediv_of_nonneg _ (by decide)]
   rw[hs,hs2]
   have hw:aj .u64 v=v%18446744073709551616:=fg
   rw[hw,show(2:Int)^(8*1)=256 from rfl]
   have:=m6 (v%18446744073709551616/256)
   unfold aj
   omega
  rw[e,hv]
 ·rw[kb h16,ak,if_neg h16,ae (cI),bw (hg r) n hn,aa]
end
noncomputable section
theorem ui {a b:Int}(h:a%18446744073709551616=b%18446744073709551616):BitVec.ofInt 64 a=BitVec.ofInt 64 b:=by
 apply BitVec.eq_of_toNat_eq
 rw[BitVec.toNat_ofInt,BitVec.toNat_ofInt]
 show(a%18446744073709551616).toNat=(b%18446744073709551616).toNat
 rw[h]
theorem wD {a b c d:Int}(h1:a%18446744073709551616=c%18446744073709551616)(h2:b%18446744073709551616=d%18446744073709551616):aj .i64 (ior .u64 a b)=ior .i64 c d:=by
 unfold ior aj
 refine l5 ?_
 rw[fg,Int.emod_emod]
 show((BitVec.ofInt 64 a|||BitVec.ofInt 64 b).toNat:Int)%_=((BitVec.ofInt 64 c|||BitVec.ofInt 64 d).toNat:Int)%_
 rw[ui h1,ui h2]
theorem rn {a b m:Int}(h:a%18446744073709551616=b%18446744073709551616):gR .u64 a m%18446744073709551616=gR .i64 b m%18446744073709551616:=by
 unfold gR
 rw[fg,Int.emod_emod,m6]
 show((BitVec.ofInt 64 a&&& ~~~BitVec.ofInt 64 m).toNat:Int)%_=((BitVec.ofInt 64 b&&& ~~~BitVec.ofInt 64 m).toNat:Int)%_
 rw[ui h]
theorem Dp (a:Int)(k:Nat)(hk:k<=63):uns (gR .i64 a ((2^k-1:Nat):Int))=2^k*(uns a/2^k):=by
 unfold gR
 rw[b9]
 show uns (((BitVec.ofInt 64 a&&& ~~~BitVec.ofInt 64 ((2^k-1:Nat):Int)).toNat:Nat):Int)=_
 rw[fe (BitVec.isLt _)]
 have hm:(BitVec.ofInt 64 ((2^k-1:Nat):Int)).toNat=2^k-1:=by
  have hlt:2^k-1<2^64:=Nat.lt_of_lt_of_le (Nat.sub_lt (Nat.two_pow_pos k) (by decide)) (Nat.pow_le_pow_right (by decide) (by omega))
  rw[BitVec.toNat_ofInt]
  have:(((2^k-1:Nat):Int)%((2^64:Nat):Int))=(((2^k-1)%2^64:Nat):Int):=(Int.natCast_emod ..).symm
  rw[this,Int.toNat_natCast,Nat.mod_eq_of_lt hlt]
 refine Nat.eq_of_testBit_eq fun i=>?_
 rw[<-BitVec.getLsbD,BitVec.getLsbD_and,BitVec.getLsbD_not]
 rw[BitVec.getLsbD,BitVec.getLsbD,hm,Nat.testBit_two_pow_sub_one,Nat.testBit_two_pow_mul]
 show((uns a).testBit i&&_)=_
 rw[Nat.testBit_div_two_pow]
 by_cases h:i<64
 ·by_cases hki:k<=i
  ·rw[decide_eq_true h,dF,decide_eq_true hki,show i-k+k=i by omega];simp
  ·rw[decide_eq_true h,decide_eq_true (show i<k by omega),decide_eq_false hki];simp
 ·have:(uns a).testBit i=false:=Nat.testBit_lt_two_pow (Nat.lt_of_lt_of_le (eJ a) (Nat.pow_le_pow_right (by decide) (by omega)))
  by_cases hki:k<=i
  ·rw[this,decide_eq_true hki,show i-k+k=i by omega,this];simp
  ·omega
theorem set_low {x v:Int}{n:Nat}(hn:n=1\/n=2)(hx:I64 x)(hv:I64 v)(m:Int)(hm:m=((2^(8*n)-1:Nat):Int)):
  aj .i64 (ior .u64 (gR .u64 (aj .u64 x) m) (dE .u64 (aj .u64 (bW v n)) 0))=aA .i64 x (aT .i64 (bW v n) (bW x n)):=by
 have hs:cl (n:Int)=true:=by rcases hn with rfl|rfl<;>rfl
 have hw:∀z:Int,aj .u64 z=z%18446744073709551616:=fun z=>fg
 have e0:dE .u64 (aj .u64 (bW v n)) 0=aj .u64 (bW v n)%18446744073709551616:=by
  have:=AB (aj .u64 (bW v n)) 0 (by decide)
  rw[Int.pow_zero,Int.mul_one]at this
  exact this
 have h1:=rn (a:=aj .u64 x) (b:=x) (m:=m) (by rw[hw];omega)
 have h2:dE .u64 (aj .u64 (bW v n)) 0%18446744073709551616=bW v n%18446744073709551616:=by rw[e0,hw];omega
 rw[wD h1 h2]
 refine j8 (lA ..) (au _) ?_
 rw[mX,hm,Dp x _ (by omega),cz hv hs,<-Nat.two_pow_add_eq_or_of_lt (gP v n)]
 unfold aA aT
 rw[b9]
 have hl:=cz hv hs
 have hl2:=cz hx hs
 have c1:=bt (bW v n)
 have c2:=bt (bW x n)
 have c3:=bt x
 rw[hl]at c1
 rw[hl2]at c2
 have hlx:ch x n=uns x%2^(8*n):=rfl
 have hdm:=Nat.div_add_mod (uns x) (2^(8*n))
 have hux:=eJ x
 have hlv:=gP v n
 have hP:2^(8*n)<=65536:=by rcases hn with rfl|rfl<;>decide
 have hz:=bt (x+IntKind.wrap .i64 (bW v n-bW x n))
 have hwe:=m6 (bW v n-bW x n)
 rw[show(2:Int)^64=18446744073709551616 from rfl]at*
 have key:((uns (x+IntKind.wrap .i64 (bW v n-bW x n)):Nat):Int)=((2^(8*n)*(uns x/2^(8*n))+ch v n:Nat):Int):=by
  rw[hz]
  have hbd:2^(8*n)*(uns x/2^(8*n))+ch v n<18446744073709551616:=by
   have hd64:2^(8*n)*(uns x/2^(8*n))+2^(8*n)<=2^64:=by
    have hq:uns x/2^(8*n)<2^(64-8*n):=Nat.div_lt_of_lt_mul (by rw[<-Nat.pow_add,show 8*n+(64-8*n)=64 by omega];exact hux)
    have:2^(8*n)*(uns x/2^(8*n)+1)<=2^(8*n)*2^(64-8*n):=Nat.mul_le_mul_left _ hq
    rw[<-Nat.pow_add,show 8*n+(64-8*n)=64 by omega,Nat.mul_add,Nat.mul_one]at this
    exact this
   exact Nat.lt_of_lt_of_le (Nat.add_lt_add_left hlv _) hd64
  rw[Int.natCast_add]
  obtain⟨A,hA⟩:∃A,A=2^(8*n)*(uns x/2^(8*n)):=⟨_,rfl⟩
  rw[<-hA]at hdm hbd|-
  rw[<-hlx]at hdm
  generalize IntKind.wrap .i64 (bW v n-bW x n)=W at*
  omega
 omega
end
noncomputable section
theorem ishl8 (v:Int):dE .u64 (aj .u64 v) 8%18446744073709551616=dE .i64 v 8%18446744073709551616:=by
 have h1:dE .u64 (aj .u64 v) 8=aj .u64 v*256%18446744073709551616:=AB (aj .u64 v) 8 (by decide)
 have h2:aj .u64 v=v%18446744073709551616:=fg
 have h3:dE .i64 v 8=IntKind.wrap .i64 (v*256):=rfl
 rw[h1,h2,h3,m6]
 omega
theorem jP {g:List Int}{rip fl r v:Int}{n:Nat}(hg:iH g)(hv:I64 v)(hn:cl (n:Int)=true)(hr:sd r n):
  b8 (((g,rip,fl,()),r,(n:Int),v,()),())=some ((qf g r n v,rip,fl,()),()):=by
 have h1:=bw hv n hn
 have h4:=uR hn
 unfold sd at hr
 unfold b8 qf Go.Den.G.setA
 dsimp only
 rw[h1,aa]
 dsimp only
 by_cases h16:16<=r
 ·have hn1:n=1:=by omega
  subst hn1
  rw[fu h16,aE,aa,ah,if_pos h16,bn]
  dsimp only
  rw[show leI 4 ((1:Nat):Int)=false from rfl,ak,show bK .i64 8 ((1:Nat):Int)=8 from rfl,show aj .u64 8=8 from rfl,show leI 0 8=true from rfl,aE,aE,ae (cI),aE,ae (cI)]
  rw[show dE .u64 (aT .u64 (dE .u64 1 8) 1) 8=65280 from by decide]
  have e:=wD (a:=gR .u64 (aj .u64 (aR g (r-16) (az .i))) 65280) (b:=dE .u64 (aj .u64 (bW v 1)) 8) (c:=gR .i64 (aR g (r-16) (az .i)) 65280) (d:=dE .i64 (bW v 1) 8)
   (rn (by rw[show aj .u64 (aR g (r-16) (az .i))=_ from fg,Int.emod_emod])) (ishl8 _)
  rw[e]
 ·rw[kb h16,ak,aa,ah,if_neg h16]
  dsimp only
  by_cases h4':4<=n
  ·rw[ae (fu),ae (cI),if_pos h4']
  ·rw[ag (kb),if_neg h4']
   have hI:=hg r
   have hn12:n=1\/n=2:=by omega
   have e:=set_low (x:=rg g r) (v:=v) (n:=n) hn12 hI hv ((2^(8*n)-1:Nat):Int) rfl
   rcases hn12 with rfl|rfl
   ·rw[show bK .i64 8 ((1:Nat):Int)=8 from rfl,show aj .u64 8=8 from rfl,show aj .u64 0=0 from rfl,show leI 0 8=true from rfl,show leI 0 0=true from rfl,aE,aE,ae (cI),aE,ae (cI)]
    rw[show dE .u64 (aT .u64 (dE .u64 1 8) 1) 0=((2^(8*1)-1:Nat):Int)from by decide]
    rw[e]
   ·rw[show bK .i64 8 ((2:Nat):Int)=16 from rfl,show aj .u64 16=16 from rfl,show aj .u64 0=0 from rfl,show leI 0 16=true from rfl,show leI 0 0=true from rfl,aE,aE,ae (cI),aE,ae (cI)]
    rw[show dE .u64 (aT .u64 (dE .u64 1 16) 1) 0=((2^(8*2)-1:Nat):Int)from by decide]
    rw[e]
theorem mul_u (a b:Int):aj .i64 (bK .u64 (aj .u64 a) (aj .u64 b))=bK .i64 a b:=by
 have h1:∀z:Int,aj .u64 z=z%18446744073709551616:=fun z=>fg
 unfold aj bK
 refine l5 ?_
 rw[fg,fg,fg,Int.emod_emod,Int.mul_emod a b,<-Int.mul_emod]
theorem me {g:List Int}{rip fl nx:Int}{o:Opd}(hb:o.base<=16/\o.index<=15):
  ck (((g,rip,fl,()),da o (),nx,()),())=some (nE g nx o,()):=by
 unfold ck nE da
 dsimp only
 refine(Ret.bnd (Q:=fun y=>y=Sum.inl ((if o.base=16 then aA .i64 o.disp nx else if 0<=o.base then aA .i64 o.disp (rg g o.base)else o.disp,()),(g,rip,fl,()),(o.kind,o.reg,o.base,o.index,o.scale,o.disp,o.imm,()),())) ?_ ?_).eq
 ·by_cases b16:o.base=16
  ·rw[be b16,aE,if_pos b16,ec,aa]
   exact Ret.some rfl
  ·rw[aq b16,ak,if_neg b16]
   by_cases hb0:0<=o.base
   ·rw[ae (fu hb0),ae (cI hb0 (by omega)),if_pos hb0,ec,aa,aa,ah]
    exact Ret.some rfl
   ·rw[ag (kb hb0),if_neg hb0,aa,ah]
    exact Ret.some rfl
 rintro _ rfl
 rw[ah]
 dsimp only
 by_cases hi:0<=o.index
 ·rw[ae (fu hi),ae (cI hi (by omega)),if_pos hi,mul_u,ec,aa]
  exact Ret.some rfl
 ·rw[ag (kb hi),if_neg hi]
  exact Ret.some rfl
theorem yI (m:List Page)(hm:MemT m)(a v:Int)(n:Nat)(hn:cl (n:Int)=true)(ha:I64 a):
  gk (((m,()),a,(n:Int),v,()),())=some ((((kZ m a n v).1,()),(kZ m a n v).2,()),()):=by
 obtain⟨n1,n8⟩:=dM hn
 obtain⟨_,hs⟩:=vD m hm a v n hn ha
 generalize kZ m a n v=s at hs|-
 obtain⟨x,e⟩:=s
 dsimp only at hs|-
 unfold gk
 dsimp only
 rw[kH m hm.r a 2 n n1 (by omega) ha,aa]
 dsimp only
 rcases hs with ⟨_,rfl,he,hf⟩|⟨rfl,hf,hx⟩
 ·rw[aq hf,bS,aE,he]
 ·have hok:=lP hm.r n 0 hf
  have hok:∀k,k<(leB v n).length->¬fnd m (a+(k:Nat))<0:=fun k hk=>hok k (Nat.zero_le _) (by rw[pA]at hk;omega)
  obtain⟨y,hy1,hy2⟩:=Id m hm a (leB v n) ha (by rw[pA];omega) hok
  rw[pA]at hy2
  rw[hf,be rfl,bD,ak,wH v n n8,aa,hy1,aa,hy2.unique hx]
abbrev TR:=(List Int×Int×Int×List Page×Int×Int×Unit)×List Acc×Unit
def MS.r (s:MS)(rip fl nx:Int):TR:=((s.g,rip,fl,s.m,nx,s.code,()),s.l,())
theorem DM {s:MS}{k:Nat}(hs:s.ok k)(hk:k<=1000){a:Int}(ha:I64 a){n:Nat}(hn:cl (n:Int)=true)(rip fl nx:Int):
  bA ((a,(n:Int),()),s.r rip fl nx)=some ((s.ld a n).1,(s.ld a n).2.r rip fl nx):=by
 obtain⟨n1,n8⟩:=dM hn
 unfold bA MS.r MS.ld
 dsimp only
 by_cases hc:s.code=0
 ·rw[hc,if_neg (by simp),be rfl,bD,ak,qh _ hs.m.r a n n1 n8 ha,aa]
  dsimp only
  rw[F7 (Nat.le_trans hs.l hk),aE]
  rfl
 ·rw[if_pos hc,aq hc,bS,aE]
theorem zn {s:MS}{k:Nat}(hs:s.ok k)(hk:k<=1000){a v:Int}(ha:I64 a)(hv:I64 v){n:Nat}(hn:cl (n:Int)=true)(rip fl nx:Int):
  bg ((a,(n:Int),v,()),s.r rip fl nx)=some ((),(s.st a n v).r rip fl nx):=by
 unfold bg MS.r MS.st
 dsimp only
 by_cases hc:s.code=0
 ·rw[hc,if_neg (by simp),be rfl,bD,ak,yI _ hs.m a v n hn ha,aa,bw hv n hn,aa]
  dsimp only
  rw[F7 (Nat.le_trans hs.l hk),aE]
  rfl
 ·rw[if_pos hc,aq hc,bS,aE]
theorem get_r {s:MS}{k:Nat}(hs:s.ok k)(hk:k<=1000){o:Opd}{n:Nat}(hn:cl (n:Int)=true)(hv:OpV o n)(rip fl nx:Int):
  ax ((da o (),(n:Int),()),s.r rip fl nx)=some ((s.rd nx o n).1,(s.rd nx o n).2.r rip fl nx):=by
 have hI:=l9 (g:=s.g) (nx:=nx) hv
 have hl:=DM hs hk hI hn rip fl nx
 have hg:=(hs.ld (nE s.g nx o) n).2.2
 unfold ax MS.rd
 dsimp only[da]
 by_cases h1:o.kind=1
 ·have hr:=hv.r (by omega) h1
  rw[if_pos h1,be h1,aE]
  have h:=rD (rip:=rip) (fl:=fl) hs.g hn hr
  unfold MS.r
  dsimp only
  rw[h,aa]
 ·rw[if_neg h1,aq h1,ak]
  by_cases h2:o.kind=2
  ·rw[if_pos h2,be h2,aE]
   have h:=me (g:=s.g) (rip:=rip) (fl:=fl) (nx:=nx) (hv.b h2)
   unfold MS.r at hl|-
   unfold da at h
   dsimp only at hl|-
   rw[h,aa]
   dsimp only
   rw[hl,aa]
   dsimp only
   rw[hg.1,hg.2]
  ·rw[if_neg h2,aq h2,ak]
theorem put_r {s:MS}{k:Nat}(hs:s.ok k)(hk:k<=1000){o:Opd}{n:Nat}{v:Int}(hI:I64 v)(hn:cl (n:Int)=true)(hv:OpV o n)(h0:o.kind=1\/o.kind=2)(rip fl nx:Int):
  aL ((da o (),(n:Int),v,()),s.r rip fl nx)=some ((),(s.wr nx o n v).r rip fl nx):=by
 have hA:=l9 (g:=s.g) (nx:=nx) hv
 have hl:=zn hs hk (v:=v) hA hI hn rip fl nx
 have hg:=(hs.st (v:=v) hA hn).2
 unfold aL MS.wr
 dsimp only[da]
 by_cases h2:o.kind=2
 ·rw[if_pos h2,aq,ak]
  have h:=me (g:=s.g) (rip:=rip) (fl:=fl) (nx:=nx) (hv.b h2)
  unfold MS.r at hl|-
  unfold da at h
  dsimp only at hl|-
  rw[h,aa]
  dsimp only
  rw[hl,aa]
  dsimp only
  rw[hg]
 ·have h1:o.kind=1:=by omega
  have hr:=hv.r h2 h1
  rw[if_neg h2,be h1,aE]
  have h:=jP (rip:=rip) (fl:=fl) hs.g hI hn hr
  unfold MS.r
  dsimp only
  rw[h,aa]
theorem push_r {s:MS}{k:Nat}(hs:s.ok k)(hk:k<=1000){v:Int}(hv:I64 v)(rip fl nx:Int):cr ((v,()),s.r rip fl nx)=some ((),(s.pu v).r rip fl nx):=by
 have h1:=hs.setA (i:=4) (v:=aT .i64 (rg s.g 4) 8) (au _)
 have h2:=zn h1 hk (a:=rg (setA s.g 4 (aT .i64 (rg s.g 4) 8)) 4) (v:=v) (n:=8) (h1.g 4) hv rfl rip fl nx
 have h3:=(h1.st (a:=rg (setA s.g 4 (aT .i64 (rg s.g 4) 8)) 4) (n:=8) (h1.g 4) rfl v).2
 have e:aA .i64 (rg s.g 4) (-8)=aT .i64 (rg s.g 4) 8:=by unfold aA aT;rw[Int.sub_eq_add_neg]
 unfold cr
 unfold MS.r at h2|-
 dsimp only at h2 h3|-
 have e':aW (((aR s.g 4 (az .i)),-8,()),())=some (aT .i64 (rg s.g 4) 8,()):=by rw[ec];rw[<-e]
 rw[e',aa]
 dsimp only
 have h2':bg (((aR (cD (dW 16 (az .i) s.g) 4 (aT .i64 (rg s.g 4) 8)) 4 (az .i)),8,v,()),((cD (dW 16 (az .i) s.g) 4 (aT .i64 (rg s.g 4) 8)),rip,fl,s.m,nx,s.code,()),s.l,())=_:=h2
 rw[h2',aa]
 unfold MS.pu
 dsimp only
 rw[h3]
 rfl
theorem pop_r {s:MS}{k:Nat}(hs:s.ok k)(hk:k<=1000)(rip fl nx:Int):cG ((),s.r rip fl nx)=some (s.po.1,s.po.2.r rip fl nx):=by
 have h2:=DM hs hk (a:=rg s.g 4) (n:=8) (hs.g 4) rfl rip fl nx
 have h3:=(hs.ld (rg s.g 4) 8).2.2
 unfold cG
 unfold MS.r at h2|-
 dsimp only at h2|-
 have h2':bA (((aR s.g 4 (az .i)),8,()),(s.g,rip,fl,s.m,nx,s.code,()),s.l,())=_:=h2
 rw[h2',aa,ec,aa]
 unfold MS.po
 dsimp only
 rw[h3.2]
 rfl
theorem goal_r {s:MS}{k:Nat}(hs:s.ok k)(hk:k<=1000){x:Ins}(hv:OpV x.src 8)(rip fl nx:Int):bO ((x,()),s.r rip fl nx)=some ((s.go nx x).1,(s.go nx x).2.r rip fl nx):=by
 have hr:=get_r hs hk (n:=8) rfl hv rip fl nx
 have hg:=(hs.rd nx (n:=8) rfl hv).2.2
 unfold bO MS.go
 dsimp only
 by_cases h3:x.src.kind=3
 ·rw[be h3,aE,if_pos h3]
  have h:=ec nx x.src.imm
  unfold MS.r
  dsimp only
  rw[h,aa]
 ·rw[aq h3,ak,if_neg h3]
  have hr':ax ((da x.src (),8,()),s.r rip fl nx)=_:=hr
  rw[hr',aa]
  unfold MS.r
  dsimp only
  rw[hg.1,hg.2]
end
set_option linter.unusedSectionVars false
noncomputable section
theorem gtq {g:List Int}{m:List Page}{c:Int}{l:List Acc}{k:Nat}(hs:(MS.mk g m c l).ok k)(hk:k<=1000){o:Opd}{n:Nat}(hn:cl (n:Int)=true)(hv:OpV o n)(nx:Int):
  ∃v c' l',(MS.mk g m c l).rd nx o n=(v,⟨g,m,c',l'⟩)/\(∀rip fl,ax ((da o (),(n:Int),()),(g,rip,fl,m,nx,c,()),l,())=some (v,(g,rip,fl,m,nx,c',()),l',()))/\(MS.mk g m c' l').ok (k+1)/\I64 v:=by
 obtain⟨h1,h2,h3,h4⟩:=hs.rd nx hn hv
 have h5:=fun rip fl=>get_r hs hk hn hv rip fl nx
 obtain⟨v,c',l',e⟩:=BC h3 h4
 rw[e]at h1 h2
 refine⟨v,c',l',e,fun rip fl=>?_,h1,h2⟩
 have:=h5 rip fl
 rw[e]at this
 exact this
theorem ptq {g:List Int}{m:List Page}{c:Int}{l:List Acc}{k:Nat}(hs:(MS.mk g m c l).ok k)(hk:k<=1000){o:Opd}{n:Nat}(hn:cl (n:Int)=true)(hv:OpV o n)(h0:o.kind=1\/o.kind=2)(nx:Int){v:Int}(hI:I64 v):
  ∃g' m' c' l',(MS.mk g m c l).wr nx o n v=⟨g',m',c',l'⟩/\(∀rip fl,aL ((da o (),(n:Int),v,()),(g,rip,fl,m,nx,c,()),l,())=some ((),(g',rip,fl,m',nx,c',()),l',()))/\(MS.mk g' m' c' l').ok (k+1):=
 ⟨_,_,_,_,rfl,fun rip fl=>put_r hs hk hI hn hv h0 rip fl nx,hs.wr nx hI hn hv⟩
theorem puq {g:List Int}{m:List Page}{c:Int}{l:List Acc}{k:Nat}(hs:(MS.mk g m c l).ok k)(hk:k<=1000){v:Int}(hv:I64 v):
  ∃g' m' c' l',(MS.mk g m c l).pu v=⟨g',m',c',l'⟩/\(∀rip fl nx,cr ((v,()),(g,rip,fl,m,nx,c,()),l,())=some ((),(g',rip,fl,m',nx,c',()),l',()))/\(MS.mk g' m' c' l').ok (k+1):=
 ⟨_,_,_,_,rfl,fun rip fl nx=>push_r hs hk hv rip fl nx,hs.pu v⟩
theorem poq {g:List Int}{m:List Page}{c:Int}{l:List Acc}{k:Nat}(hs:(MS.mk g m c l).ok k)(hk:k<=1000):
  ∃v g' c' l',(MS.mk g m c l).po=(v,⟨g',m,c',l'⟩)/\(∀rip fl nx,cG ((),(g,rip,fl,m,nx,c,()),l,())=some (v,(g',rip,fl,m,nx,c',()),l',()))/\(MS.mk g' m c' l').ok (k+1)/\I64 v:=by
 obtain⟨h1,h2,h3⟩:=hs.po
 have h5:=fun rip fl nx=>pop_r hs hk rip fl nx
 obtain⟨v,g',c',l',e⟩:∃v g' c' l',(MS.mk g m c l).po=(v,MS.mk g' m c' l'):=by
  generalize (MS.mk g m c l).po=r at h3
  obtain⟨v,g',m',c',l'⟩:=r
  cases h3
  exact⟨v,g',c',l',rfl⟩
 rw[e]at h1 h2
 refine⟨v,g',c',l',e,fun rip fl nx=>?_,h1,h2⟩
 have:=h5 rip fl nx
 rw[e]at this
 exact this
theorem goq {g:List Int}{m:List Page}{c:Int}{l:List Acc}{k:Nat}(hs:(MS.mk g m c l).ok k)(hk:k<=1000){x:Ins}(hv:OpV x.src 8)(nx:Int):
  ∃v c' l',(MS.mk g m c l).go nx x=(v,⟨g,m,c',l'⟩)/\(∀rip fl,bO ((x,()),(g,rip,fl,m,nx,c,()),l,())=some (v,(g,rip,fl,m,nx,c',()),l',()))/\(MS.mk g m c' l').ok (k+1)/\I64 v:=by
 obtain⟨h1,h2⟩:=hs.go nx hv
 have h5:=fun rip fl=>goal_r hs hk hv rip fl nx
 have h3:((MS.mk g m c l).go nx x).2.g=g/\((MS.mk g m c l).go nx x).2.m=m:=by
  unfold MS.go
  split
  ·exact⟨rfl,rfl⟩
  ·exact(hs.rd nx (n:=8) rfl hv).2.2
 obtain⟨v,c',l',e⟩:=BC h3.1 h3.2
 rw[e]at h1 h2
 refine⟨v,c',l',e,fun rip fl=>?_,h1,h2⟩
 have:=h5 rip fl
 rw[e]at this
 exact this
theorem ldq {g:List Int}{m:List Page}{c:Int}{l:List Acc}{k:Nat}(hs:(MS.mk g m c l).ok k)(hk:k<=1000){a:Int}(ha:I64 a){n:Nat}(hn:cl (n:Int)=true):
  ∃v c' l',(MS.mk g m c l).ld a n=(v,⟨g,m,c',l'⟩)/\(∀rip fl nx,bA ((a,(n:Int),()),(g,rip,fl,m,nx,c,()),l,())=some (v,(g,rip,fl,m,nx,c',()),l',()))/\(MS.mk g m c' l').ok (k+1)/\I64 v:=by
 obtain⟨h1,h2,h3,h4⟩:=hs.ld a n
 have h5:=fun rip fl nx=>DM hs hk ha hn rip fl nx
 obtain⟨v,c',l',e⟩:=BC h3 h4
 rw[e]at h1 h2
 refine⟨v,c',l',e,fun rip fl nx=>?_,h1,h2⟩
 have:=h5 rip fl nx
 rw[e]at this
 exact this
theorem stq {g:List Int}{m:List Page}{c:Int}{l:List Acc}{k:Nat}(hs:(MS.mk g m c l).ok k)(hk:k<=1000){a:Int}(ha:I64 a){n:Nat}(hn:cl (n:Int)=true){v:Int}(hv:I64 v):
  ∃m' c' l',(MS.mk g m c l).st a n v=⟨g,m',c',l'⟩/\(∀rip fl nx,bg ((a,(n:Int),v,()),(g,rip,fl,m,nx,c,()),l,())=some ((),(g,rip,fl,m',nx,c',()),l',()))/\(MS.mk g m' c' l').ok (k+1):=by
 obtain⟨h1,h2⟩:=hs.st ha hn v
 have h5:=fun rip fl nx=>zn hs hk ha hv hn rip fl nx
 obtain⟨m',c',l',e⟩:∃m' c' l',(MS.mk g m c l).st a n v=⟨g,m',c',l'⟩:=by
  generalize (MS.mk g m c l).st a n v=r at h2
  obtain⟨g',m',c',l'⟩:=r
  cases h2
  exact⟨m',c',l',rfl⟩
 rw[e]at h1
 refine⟨m',c',l',e,fun rip fl nx=>?_,h1⟩
 have:=h5 rip fl nx
 rw[e]at this
 exact this
def RelR (S:MS)(nx fl:Int)(e:MS×Int×Int):Prop:=S.l=e.1.l/\S.code=e.1.code/\(e.1.code=0->S=e.1/\nx=e.2.1/\fl=e.2.2)
theorem RelR.same {S:MS}{nx fl:Int}{e:MS×Int×Int}(h:e=(S,nx,fl)):RelR S nx fl e:=by subst h;exact⟨rfl,rfl,fun _=>⟨rfl,rfl,rfl⟩⟩
def fR (g:List Int)(m:List Page)(c:Int)(l:List Acc)(x:Ins)(rip fl nx:Int)(e:MS×Int×Int):Prop:=
 ∃S fl' nx',aY ((x,()),(g,rip,fl,m,nx,c,()),l,())=some ((),S.r rip fl' nx')/\RelR S nx' fl' e
theorem CF {α β:Type}(n:Nat)(X:α):br (leI (n:Int) 8) (some (Sum.inl (((leI (n:Int) 8),()),X):Sum ((Bool×Unit)×α) β)) (some (Sum.inl (((eqI (n:Int) 10),()),X)))=some (Sum.inl ((decide (n<=8\/n=10),()),X)):=by
 by_cases h:n<=8
 ·rw[fu (show(n:Int)<=8 by omega),aE,dT]
 ·rw[kb (show ¬(n:Int)<=8 by omega),ak]
  by_cases h2:n=10
  ·rw[be (show(n:Int)=10 by omega),dT]
  ·rw[aq (show ¬(n:Int)=10 by omega),dF]
theorem Fo {α R:Type}(n:Nat)(X:α):
  (br (eqI (n:Int) 11) (some (Sum.inl (((eqI (n:Int) 11),()),X))) (bnd (br (eqI (n:Int) 12) (some (Sum.inl (((eqI (n:Int) 12),()),X))) (bnd (br (eqI (n:Int) 18) (some (Sum.inl (((eqI (n:Int) 18),()),X))) (some (Sum.inl (((eqI (n:Int) 19),()),X)))) (fun(x9:Sum ((Bool×Unit)×α) (Sum ((Bool×Unit)×α) (Sum ((Bool×Unit)×α) R)))=>aU x9 (fun x10=>some (Sum.inl x10)) some))) (fun(x11:Sum ((Bool×Unit)×α) (Sum ((Bool×Unit)×α) R))=>aU x11 (fun x12=>some (Sum.inl x12)) some)))=some (Sum.inl ((decide (n=11\/n=12\/n=18\/n=19),()),X)):=by
 by_cases h1:n=11
 ·rw[be (show(n:Int)=11 by omega),aE,dT]
 rw[aq (show ¬(n:Int)=11 by omega),ak]
 by_cases h2:n=12
 ·rw[be (show(n:Int)=12 by omega),aE,aa,ah,dT]
 rw[aq (show ¬(n:Int)=12 by omega),ak]
 by_cases h3:n=18
 ·rw[be (show(n:Int)=18 by omega),aE,aa,ah,aa,ah,dT]
 rw[aq (show ¬(n:Int)=18 by omega),ak,aa,ah,aa,ah]
 by_cases h4:n=19
 ·rw[be (show(n:Int)=19 by omega),dT]
 ·rw[aq (show ¬(n:Int)=19 by omega),dF]
theorem put_ne (n:Nat):br (aP (eqI (n:Int) 8)) (some (aP (eqI (n:Int) 10))) (some false)=some (decide (n≠8/\n≠10)):=by
 by_cases a8:n=8
 ·rw[be (show(n:Int)=8 by omega),bD,ak,dF]
 ·rw[aq (show ¬(n:Int)=8 by omega),bS,aE]
  by_cases a10:n=10
  ·rw[be (show(n:Int)=10 by omega),bD,dF]
  ·rw[aq (show ¬(n:Int)=10 by omega),bS,dT]
end
set_option linter.unusedSectionVars false
noncomputable section
theorem Ez {w v op a f:Int}{z:Nat}(h:w%64=v%64):jU op z a w f=jU op z a v f:=by
 unfold jU
 have:zh z w=zh z v:=by unfold zh;split<;>omega
 rw[this]
section
variable {g:List Int}{m:List Page}{c:Int}{l:List Acc}{k:Nat}(hs:(MS.mk g m c l).ok k)(hk:k+4<=1000){x:Ins}{n z:Nat}{rip fl nx:Int}
include hs hk
theorem Ed (hx:ExV x n)(hz:x.size=z)(hn:n<=8\/n=10):fR g m c l x rip fl nx (((MS.mk g m c l).reck nx fl x n z).1,nx,((MS.mk g m c l).reck nx fl x n z).2):=by
 have hop:=hx.op
 have hz':cl (z:Int)=true:=by rw[<-hz];exact hx.szs.1 (by omega)
 have hdv:=hx.dv
 have hsv:=hx.sv
 have hss2:=(qN hx (by omega) hz hz').2
 have hsz:AE n z=z:=by unfold AE;rw[iN]
 have hks:=hx.kd.2.2.2.2.2.2.2.2.2.2 (by omega)
 rw[hz]at hdv
 rw[hss2,hsz]at hsv
 obtain⟨v1,c1,l1,e1,r1,ok1,I1⟩:=gtq hs (by omega) hz' hdv nx
 obtain⟨v2,c2,l2,e2,r2,ok2,I2⟩:=gtq ok1 (by omega) hz' hsv nx
 have hrk:pf n z v1 v2 fl=xY n z v1 v2 fl:=by unfold pf;rw[if_pos hn]
 have rI:=(Cs (op:=(n:Int)) (b:=v2) (f:=fl) hz' I1).1
 have hre:(MS.mk g m c l).reck nx fl x n z=(if n≠8/\n≠10 then(MS.mk g m c2 l2).wr nx x.dst z (xY n z v1 v2 fl).1 else MS.mk g m c2 l2,(xY n z v1 v2 fl).2):=by
  unfold MS.reck MS.rd0
  dsimp only
  rw[e1,if_pos (show x.src.kind≠0 by omega),hsz]
  dsimp only
  rw[e2]
  dsimp only
  rw[hrk]
 rw[hre]
 have hA:=DC (op:=(n:Int)) (f:=fl) hz' I1 I2
 generalize xY (n:Int) z v1 v2 fl=A at rI hA|-
 obtain⟨A,f'⟩:=A
 dsimp only at rI hA|-
 unfold da at r1 r2
 unfold fR aY
 dsimp only
 rw[hop,CF,aa,ah,decide_eq_true hn]
 dsimp only[dX,da,cp7,d5,d11]
 rw[aE,hop,hz,r1,aa]
 dsimp only
 rw[r2,aa]
 dsimp only
 rw[hA,aa,put_ne,aa]
 dsimp only
 by_cases h:n≠8/\n≠10
 ·obtain⟨g',m',c',l',e3,r3,ok3⟩:=ptq ok2 (by omega) hz' hdv (hx.kd.1 (by omega)) nx rI
  unfold da at r3
  rw[decide_eq_true h,aE,if_pos h,e3,r3,aa]
  exact⟨⟨g',m',c',l'⟩,f',nx,rfl,.same rfl⟩
 ·rw[decide_eq_false h,ak,if_neg h]
  exact⟨⟨g,m,c2,l2⟩,f',nx,rfl,.same rfl⟩
theorem Ee (hx:ExV x n)(hz:x.size=z)(hI:I64 fl)(hf:bU fl=true)(hn:n=11\/n=12\/n=18\/n=19):fR g m c l x rip fl nx (((MS.mk g m c l).reck nx fl x n z).1,nx,((MS.mk g m c l).reck nx fl x n z).2):=by
 have hop:=hx.op
 have hz':cl (z:Int)=true:=by rw[<-hz];exact hx.szs.1 (by omega)
 have hdv:=hx.dv
 have hks:=hx.kd.2.2.2.2.2.2.2.2.2.1 (by omega)
 rw[hz]at hdv
 obtain⟨v1,c1,l1,e1,r1,ok1,I1⟩:=gtq hs (by omega) hz' hdv nx
 have hrk:pf n z v1 0 fl=y4 n z v1 fl:=by unfold pf;rw[iN,iP]
 have hre:(MS.mk g m c l).reck nx fl x n z=((MS.mk g m c1 l1).wr nx x.dst z (y4 n z v1 fl).1,(y4 n z v1 fl).2):=by
  unfold MS.reck MS.rd0
  dsimp only
  rw[e1,if_neg (show ¬x.src.kind≠0 by omega)]
  dsimp only
  rw[hrk,if_pos (show n≠8/\n≠10 by omega)]
 rw[hre]
 have hA:=DD (op:=(n:Int)) (f:=fl) hz' I1
 have rI:=(D9 (op:=(n:Int)) (a:=v1) hz' hI hf).1
 generalize y4 (n:Int) z v1 fl=A at rI hA|-
 obtain⟨A,f'⟩:=A
 dsimp only at rI hA|-
 obtain⟨g',m',c',l',e3,r3,ok3⟩:=ptq ok1 (by omega) hz' hdv (hx.kd.1 (by omega)) nx rI
 unfold da at r1 r3
 unfold fR aY
 dsimp only
 rw[hop,CF,aa,ah,dF]
 dsimp only
 rw[ak,show(dX x ()).1=(n:Int)from hop,Fo,aa,ah,decide_eq_true hn]
 dsimp only[dX,da,cp7,d5,d11]
 rw[aE,hop,hz,r1,aa]
 dsimp only
 rw[hA,aa]
 dsimp only
 rw[r3,aa,e3]
 exact⟨⟨g',m',c',l'⟩,f',nx,rfl,.same rfl⟩
theorem y8 (hx:ExV x n)(hz:x.size=z)(hI:I64 fl)(hf:bU fl=true)(hn:20<=n/\n<=24):fR g m c l x rip fl nx (((MS.mk g m c l).reck nx fl x n z).1,nx,((MS.mk g m c l).reck nx fl x n z).2):=by
 have hop:=hx.op
 have hz':cl (z:Int)=true:=by rw[<-hz];exact hx.szs.1 (by omega)
 have hdv:=hx.dv
 have hsv:=hx.sv
 have hss2:=(qN hx (by omega) hz hz').2
 have hsz:AE n z=8:=by unfold AE;rw[iP]
 have hks:=hx.kd.2.2.2.2.2.2.2.2.1 (by omega)
 rw[hz]at hdv
 rw[hss2,hsz]at hsv
 have hsv1:OpV x.src ((1:Nat):Int):=by
  refine⟨fun h2 h1=>?_,hsv.b,hsv.d,hsv.i⟩
  have:=hsv.r h2 h1
  unfold sd at this|-
  omega
 obtain⟨v1,c1,l1,e1,r1,ok1,I1⟩:=gtq hs (by omega) hz' hdv nx
 have hw:∃w v,(∀rip fl,ax ((da x.src (),1,()),(g,rip,fl,m,nx,c,()),l,())=some (w,(g,rip,fl,m,nx,c,()),l,()))/\(MS.mk g m c1 l1).rd nx x.src 8=(v,MS.mk g m c1 l1)/\w%64=bW v 1%64:=by
  have h5:=fun rip fl=>get_r hs (by omega) (n:=1) rfl hsv1 rip fl nx
  unfold MS.rd at h5|-
  rcases hks with h1|h3
  ·rw[if_pos h1]
   have hr:=hsv.r (by omega) h1
   unfold sd at hr
   refine⟨ll g x.src.reg 1,ll g x.src.reg 8,fun rip fl=>?_,rfl,?_⟩
   ·have:=h5 rip fl
    rw[if_pos h1]at this
    exact this
   ·unfold ll
    rw[iN,iN]
    have e8:bW (rg g x.src.reg) 8=rg g x.src.reg:=if_pos rfl
    rw[e8]
  ·rw[iN,iN]
   refine⟨x.src.imm,x.src.imm,fun rip fl=>?_,rfl,?_⟩
   ·have:=h5 rip fl
    rw[iN,iN]at this
    exact this
   ·unfold bW
    rw[iD,show(2:Int)^(8*1)=256 from rfl]
    omega
 obtain⟨w,v2,r2,e2,hwv⟩:=hw
 have hrk:pf n z v1 v2 fl=jU n z v1 w fl:=by
  unfold pf
  rw[iN,iN,iP]
  exact(Ez hwv).symm
 have hre:(MS.mk g m c l).reck nx fl x n z=((MS.mk g m c1 l1).wr nx x.dst z (jU n z v1 w fl).1,(jU n z v1 w fl).2):=by
  unfold MS.reck MS.rd0
  dsimp only
  rw[e1,if_pos (show x.src.kind≠0 by omega),hsz]
  dsimp only
  rw[e2]
  dsimp only
  rw[hrk,if_pos (show n≠8/\n≠10 by omega)]
 rw[hre]
 have hA:=yL (op:=(n:Int)) (k:=w) (f:=fl) (by omega) hz' I1
 have rI:=(xz (op:=(n:Int)) (k:=w) hz' I1 hI hf).1
 generalize jU (n:Int) z v1 w fl=A at rI hA|-
 obtain⟨A,f'⟩:=A
 dsimp only at rI hA|-
 obtain⟨g',m',c',l',e3,r3,ok3⟩:=ptq ok1 (by omega) hz' hdv (hx.kd.1 (by omega)) nx rI
 unfold da at r1 r2 r3
 unfold fR aY
 dsimp only
 rw[hop,CF,aa,ah,dF]
 dsimp only
 rw[ak,show(dX x ()).1=(n:Int)from hop,Fo,aa,ah,dF]
 dsimp only
 rw[ak,show(dX x ()).1=(n:Int)from hop,ct,bE,aa,dT]
 dsimp only[dX,da,cp7,d5,d11]
 rw[aE,hz,r2,aa]
 dsimp only
 rw[r1,aa]
 dsimp only
 rw[hA,aa]
 dsimp only
 rw[r3,aa,e3]
 exact⟨⟨g',m',c',l'⟩,f',nx,rfl,.same rfl⟩
theorem Bz (hx:ExV x 17)(hz:x.size=z)(hI:I64 fl)(hf:bU fl=true):fR g m c l x rip fl nx (((MS.mk g m c l).reck nx fl x 17 z).1,nx,((MS.mk g m c l).reck nx fl x 17 z).2):=by
 have hop:=hx.op
 have hz':cl (z:Int)=true:=by rw[<-hz];exact hx.szs.1 (by omega)
 have hdv:=hx.dv
 have hsv:=hx.sv
 have hss2:=(qN hx (by omega) hz hz').2
 have hsz:AE 17 z=z:=by unfold AE;rw[iN]
 have hks:=hx.kd.2.2.2.2.2.2.2.2.2.2 (by omega)
 rw[hz]at hdv
 rw[hss2,hsz]at hsv
 obtain⟨v1,c1,l1,e1,r1,ok1,I1⟩:=gtq hs (by omega) hz' hdv nx
 obtain⟨v2,c2,l2,e2,r2,ok2,I2⟩:=gtq ok1 (by omega) hz' hsv nx
 have hrk:pf 17 z v1 v2 fl=((rH (17:Nat) z v1 v2 fl).1,(rH (17:Nat) z v1 v2 fl).2.2):=by
  unfold pf;rw[iN,iN,iN]
 have hre:(MS.mk g m c l).reck nx fl x 17 z=((MS.mk g m c2 l2).wr nx x.dst z (rH (17:Nat) z v1 v2 fl).1,(rH (17:Nat) z v1 v2 fl).2.2):=by
  unfold MS.reck MS.rd0
  dsimp only
  rw[e1,if_pos (show x.src.kind≠0 by omega),hsz]
  dsimp only
  rw[e2]
  dsimp only
  rw[hrk,if_pos (show(17:Nat)≠8/\(17:Nat)≠10 by omega)]
 rw[hre]
 have hA:=nL (op:=((17:Nat):Int)) (f:=fl) hz' I1 I2
 have rI:=(va (op:=((17:Nat):Int)) (n:=z) (a:=v1) (b:=v2) hI hf).1
 generalize rH ((17:Nat):Int) z v1 v2 fl=A at rI hA|-
 obtain⟨A,A2,f'⟩:=A
 dsimp only at rI hA|-
 obtain⟨g',m',c',l',e3,r3,ok3⟩:=ptq ok2 (by omega) hz' hdv (hx.kd.1 (by omega)) nx rI
 unfold da at r1 r2 r3
 unfold fR aY
 dsimp only
 rw[hop,CF,aa,ah,dF]
 dsimp only
 rw[ak,show(dX x ()).1=((17:Nat):Int)from hop,Fo,aa,ah,dF]
 dsimp only
 rw[ak,show(dX x ()).1=((17:Nat):Int)from hop,ct,bE,aa,dF]
 dsimp only
 rw[ak,be (show((17:Nat):Int)=17 by omega),aE]
 dsimp only[dX,da,cp7,d5,d11]
 rw[hz,r1,aa]
 dsimp only
 rw[r2,aa]
 dsimp only
 rw[hA,aa]
 dsimp only
 rw[r3,aa,e3]
 exact⟨⟨g',m',c',l'⟩,f',nx,rfl,.same rfl⟩
end
end
set_option linter.unusedSectionVars false
noncomputable section
theorem upper_r (z:Nat):gp (((z:Int),()),())=some (upZ z,()):=by
 unfold gp upZ
 dsimp only
 by_cases h:z=1
 ·rw[be,aE,if_pos h]
 ·rw[aq,ak,if_neg h]
theorem reg0 (z:Nat):sd 0 z:=by unfold sd;omega
theorem Do (x:Ins):yE (dX x ())=x:=rfl
section
variable {g:List Int}{m:List Page}{c:Int}{l:List Acc}{k:Nat}(hs:(MS.mk g m c l).ok k)(hk:k+4<=1000){x:Ins}{n z:Nat}{rip fl nx:Int}
include hs hk
theorem plain_9 (hx:ExV x 9)(hz:x.size=z):fR g m c l x rip fl nx ((MS.mk g m c l).move fl nx x 9 z,nx,fl):=by
 have hop:=hx.op
 have hz':cl (z:Int)=true:=by rw[<-hz];exact hx.szs.1 (by omega)
 have hdv:=hx.dv
 have hsv:=hx.sv
 rw[hz]at hdv
 rw[show sSz x 9=x.size from by unfold sSz;rw[iD,hx.fr.2 (by decide),iD],hz]at hsv
 obtain⟨v1,c1,l1,e1,r1,ok1,I1⟩:=gtq hs (by omega) hz' hsv nx
 obtain⟨g',m',c',l',e2,r2,ok2⟩:=ptq ok1 (by omega) hz' hdv (hx.kd.1 (by omega)) nx I1
 unfold da at r1 r2
 have hre:(MS.mk g m c l).move fl nx x 9 z=⟨g',m',c',l'⟩:=by
  unfold MS.move
  rw[if_pos rfl,e1]
  exact e2
 rw[hre]
 unfold fR aY
 dsimp only
 rw[hop,CF,aa,ah,dF]
 dsimp only
 rw[ak,show(dX x ()).1=((9:Nat):Int)from hop,Fo,aa,ah,dF]
 dsimp only
 rw[ak,show(dX x ()).1=((9:Nat):Int)from hop,ct,bE,aa,dF]
 dsimp only
 rw[ak,aq,ak,be,aE]
 dsimp only[dX,da,cp7,d5,d11]
 rw[hz,r1,aa]
 dsimp only
 rw[r2,aa]
 exact⟨⟨g',m',c',l'⟩,fl,nx,rfl,.same rfl⟩
theorem He (hx:ExV x 28)(hz:x.size=z):fR g m c l x rip fl nx ((MS.mk g m c l).move fl nx x 28 z,nx,fl):=by
 have hop:=hx.op
 have hz':cl (z:Int)=true:=by rw[<-hz];exact hx.szs.1 (by omega)
 have hdv:=hx.dv
 have hsv:=hx.sv
 rw[hz]at hdv
 rw[show sSz x 28=x.size from by unfold sSz;rw[iD,hx.fr.2 (by decide),iD],hz]at hsv
 have hsk:=hx.kd.2.1 rfl
 obtain⟨v1,c1,l1,e1,r1,ok1,I1⟩:=gtq hs (by omega) hz' hdv nx
 obtain⟨v2,c2,l2,e2,r2,ok2,I2⟩:=gtq ok1 (by omega) hz' hsv nx
 obtain⟨g3,m3,c3,l3,e3,r3,ok3⟩:=ptq ok2 (by omega) hz' hdv (hx.kd.1 (by omega)) nx I2
 obtain⟨g4,m4,c4,l4,e4,r4,ok4⟩:=ptq ok3 (by omega) hz' hsv (.inl hsk) nx I1
 unfold da at r1 r2 r3 r4
 have hre:(MS.mk g m c l).move fl nx x 28 z=⟨g4,m4,c4,l4⟩:=by
  unfold MS.move
  dsimp only
  rw[iD,if_pos rfl,e1]
  dsimp only
  rw[e2]
  dsimp only
  rw[e3]
  exact e4
 rw[hre]
 unfold fR aY
 dsimp only
 rw[hop,CF,aa,ah,dF]
 dsimp only
 rw[ak,show(dX x ()).1=((28:Nat):Int)from hop,Fo,aa,ah,dF]
 dsimp only
 rw[ak,show(dX x ()).1=((28:Nat):Int)from hop,ct,bE,aa,dF]
 dsimp only
 rw[ak,aq,ak,aq,ak,be,aE]
 dsimp only[dX,da,cp7,d5,d11]
 rw[hz,r1,aa]
 dsimp only
 rw[r2,aa]
 dsimp only
 rw[r3,aa]
 dsimp only
 rw[r4,aa]
 exact⟨⟨g4,m4,c4,l4⟩,fl,nx,rfl,.same rfl⟩
theorem Hb (hx:ExV x 25)(hz:x.size=z):fR g m c l x rip fl nx ((MS.mk g m c l).move fl nx x 25 z,nx,fl):=by
 have hop:=hx.op
 have hz':cl (z:Int)=true:=by rw[<-hz];exact hx.szs.1 (by omega)
 have hdv:=hx.dv
 have hsv:=hx.sv
 rw[hz]at hdv
 have hk2:=hx.kd.2.2.1 rfl
 have hA:=l9 (g:=g) (nx:=nx) hsv
 obtain⟨g',m',c',l',e2,r2,ok2⟩:=ptq hs (by omega) hz' hdv (hx.kd.1 (by omega)) nx hA
 have hadr:=me (g:=g) (rip:=rip) (fl:=fl) (nx:=nx) (hsv.b hk2.2)
 unfold da at r2 hadr
 have hre:(MS.mk g m c l).move fl nx x 25 z=⟨g',m',c',l'⟩:=by
  unfold MS.move
  rw[iD,iD,if_pos rfl]
  exact e2
 rw[hre]
 unfold fR aY
 dsimp only
 rw[hop,CF,aa,ah,dF]
 dsimp only
 rw[ak,show(dX x ()).1=((25:Nat):Int)from hop,Fo,aa,ah,dF]
 dsimp only
 rw[ak,show(dX x ()).1=((25:Nat):Int)from hop,ct,bE,aa,dF]
 dsimp only
 rw[ak,aq,ak,aq,ak,aq,ak,be,aE]
 dsimp only[dX,da,cp7,d5,d11]
 rw[hz,hadr,aa]
 rw[r2,aa]
 exact⟨⟨g',m',c',l'⟩,fl,nx,rfl,.same rfl⟩
theorem Hc (hx:ExV x 26)(hz:x.size=z):fR g m c l x rip fl nx ((MS.mk g m c l).move fl nx x 26 z,nx,fl):=by
 have hop:=hx.op
 have hz':cl (z:Int)=true:=by rw[<-hz];exact hx.szs.1 (by omega)
 have hdv:=hx.dv
 have hsv:=hx.sv
 rw[hz]at hdv
 have hfz:=hx.fr.1 (by omega)
 obtain⟨f,hf,hf2⟩:=qC hfz
 rw[show sSz x 26=x.frm from by unfold sSz;rw[iD,if_pos (by have:=dM hf2;omega)],hf]at hsv
 obtain⟨v1,c1,l1,e1,r1,ok1,I1⟩:=gtq hs (by omega) hf2 hsv nx
 have hft:x.frm.toNat=f:=by omega
 obtain⟨g',m',c',l',e2,r2,ok2⟩:=ptq ok1 (by omega) hz' hdv (hx.kd.1 (by omega)) nx I1
 unfold da at r1 r2
 have hre:(MS.mk g m c l).move fl nx x 26 z=⟨g',m',c',l'⟩:=by
  unfold MS.move
  rw[iD,iD,iD,if_pos rfl,hft,e1]
  exact e2
 rw[hre]
 unfold fR aY
 dsimp only
 rw[hop,CF,aa,ah,dF]
 dsimp only
 rw[ak,show(dX x ()).1=((26:Nat):Int)from hop,Fo,aa,ah,dF]
 dsimp only
 rw[ak,show(dX x ()).1=((26:Nat):Int)from hop,ct,bE,aa,dF]
 dsimp only
 rw[ak,aq,ak,aq,ak,aq,ak,aq,ak,be,aE]
 dsimp only[dX,da,cp7,d5,d11]
 rw[hz,hf,r1,aa]
 dsimp only
 rw[r2,aa]
 exact⟨⟨g',m',c',l'⟩,fl,nx,rfl,.same rfl⟩
theorem Hd (hx:ExV x 27)(hz:x.size=z):fR g m c l x rip fl nx ((MS.mk g m c l).move fl nx x 27 z,nx,fl):=by
 have hop:=hx.op
 have hz':cl (z:Int)=true:=by rw[<-hz];exact hx.szs.1 (by omega)
 have hdv:=hx.dv
 have hsv:=hx.sv
 rw[hz]at hdv
 have hfz:=hx.fr.1 (by omega)
 obtain⟨f,hf,hf2⟩:=qC hfz
 rw[show sSz x 27=x.frm from by unfold sSz;rw[iD,if_pos (by have:=dM hf2;omega)],hf]at hsv
 obtain⟨v1,c1,l1,e1,r1,ok1,I1⟩:=gtq hs (by omega) hf2 hsv nx
 have hft:x.frm.toNat=f:=by omega
 have hf18:=dM hf2
 have hsg:=gK v1 (f:Int) (by omega) (by omega)
 rw[show(8*(f:Int)-1).toNat=8*f-1 by omega]at hsg
 have hsI:I64 (sx (8*f-1) v1):=iF _ (by omega) v1
 obtain⟨g',m',c',l',e2,r2,ok2⟩:=ptq ok1 (by omega) hz' hdv (hx.kd.1 (by omega)) nx hsI
 unfold da at r1 r2
 have hre:(MS.mk g m c l).move fl nx x 27 z=⟨g',m',c',l'⟩:=by
  unfold MS.move
  rw[iD,iD,iD,iD,if_pos rfl,hft,e1]
  exact e2
 rw[hre]
 unfold fR aY
 dsimp only
 rw[hop,CF,aa,ah,dF]
 dsimp only
 rw[ak,show(dX x ()).1=((27:Nat):Int)from hop,Fo,aa,ah,dF]
 dsimp only
 rw[ak,show(dX x ()).1=((27:Nat):Int)from hop,ct,bE,aa,dF]
 dsimp only
 rw[ak,aq,ak,aq,ak,aq,ak,aq,ak,aq,ak,be,aE]
 dsimp only[dX,da,cp7,d5,d11]
 rw[hz,hf,r1,aa]
 dsimp only
 rw[hsg,aa]
 rw[r2,aa]
 exact⟨⟨g',m',c',l'⟩,fl,nx,rfl,.same rfl⟩
theorem wide_r (hx:ExV x n)(hz:x.size=z)(hI:I64 fl)(hf:bU fl=true)(hn:13<=n/\n<=16):
  ∃g' c' l' fl',eh ((x,()),(g,rip,fl,m,nx,c,()),l,())=some ((),(g',rip,fl',m,nx,c',()),l',())/\RelR ⟨g',m,c',l'⟩ nx fl' (((MS.mk g m c l).wide fl nx x n z).1,nx,((MS.mk g m c l).wide fl nx x n z).2):=by
 have hop:=hx.op
 have hz':cl (z:Int)=true:=by rw[<-hz];exact hx.szs.1 (by omega)
 have hsv:=hx.sv
 rw[show sSz x n=x.size from by unfold sSz;rw[iN,hx.fr.2 (by omega),iD],hz]at hsv
 obtain⟨v1,c1,l1,e1,r1,ok1,I1⟩:=gtq hs (by omega) hz' hsv nx
 have hgI:∀r,I64 (ll g r z):=fun r=>uG (g:=g) hs.g hz'
 unfold eh MS.wide RelR
 dsimp only
 rw[e1,hop,hz,r1,aa]
 dsimp only[d5]
 by_cases hc1:c1=0
 rotate_left
 ·rw[aq hc1,bS,aE]
  refine⟨g,c1,l1,fl,rfl,?_⟩
  by_cases hm:n=13\/n=14
  ·rw[if_pos hm]
   exact⟨rfl,rfl,fun h=>absurd h hc1⟩
  ·rw[if_neg hm]
   dsimp only
   rw[if_neg (fun h=>hc1 h.2)]
   exact⟨rfl,rfl,fun h=>absurd h hc1⟩
 subst hc1
 have hg0:=rD (g:=g) (rip:=rip) (fl:=fl) hs.g hz' (reg0 z)
 have hgu:=rD (g:=g) (rip:=rip) (fl:=fl) hs.g hz' (pO z)
 rw[be rfl,bD,ak,hg0,aa,upper_r,aa]
 have hb:br (eqI (n:Int) 13) (some true) (some (eqI (n:Int) 14))=some (decide (n=13\/n=14)):=by
  by_cases a:n=13
  ·rw[be,aE,dT]
  ·rw[aq,ak]
   by_cases b:n=14
   ·rw[be,dT]
   ·rw[aq,dF]
 rw[hb,aa]
 by_cases hm:n=13\/n=14
 ·rw[decide_eq_true hm,aE,if_pos hm]
  have hA:=nL (op:=(n:Int)) (a:=ll g 0 z) (b:=v1) (f:=fl) hz' (hgI 0) I1
  obtain⟨o1,o2,o3,o4⟩:=va (op:=n) (n:=z) (a:=ll g 0 z) (b:=v1) hI hf
  generalize rH (n:Int) z (ll g 0 z) v1 fl=A at hA o1 o2 o3 o4|-
  obtain⟨lo,hi,f'⟩:=A
  dsimp only at hA o1 o2 o3 o4|-
  have s1:=jP (g:=g) (rip:=rip) (fl:=f') hs.g o1 hz' (reg0 z)
  have s2:=jP (g:=qf g 0 z lo) (rip:=rip) (fl:=f') (lH hs.g o1 hz') o2 hz' (pO z)
  rw[hA,aa,aa,ah]
  dsimp only[dX]
  rw[hz,s1,aa]
  dsimp only
  rw[s2,aa]
  exact⟨_,0,l1,f',rfl,rfl,rfl,fun _=>⟨rfl,rfl,rfl⟩⟩
 ·rw[decide_eq_false hm,ak,if_neg hm]
  obtain⟨o1,o2⟩:=zO (op:=n) (n:=z) (hi:=ll g (upZ z) z) (lo:=ll g 0 z) (d:=v1)
  obtain⟨q,r,hd,hqr⟩:=wK (op:=(n:Int)) (n:=z) (hi:=ll g (upZ z) z) (lo:=ll g 0 z) (d:=v1) hz' (hgI _) (hgI _) I1
  generalize ur (n:Int) z (ll g (upZ z) z) (ll g 0 z) v1=A at hd hqr o1 o2|-
  obtain⟨q',r',ok⟩:=A
  dsimp only at hd hqr o1 o2|-
  rw[hgu,aa]
  dsimp only
  rw[hd,aa]
  dsimp only
  cases ok with
  |false=>
   rw[bS,aE,aa,qi]
   exact⟨g,16,l1,fl,rfl,rfl,rfl,fun h=>absurd h (by rw[if_pos ⟨rfl,rfl⟩];decide)⟩
  |true=>
   obtain⟨rfl,rfl⟩:=hqr rfl
   have s1:=jP (g:=g) (rip:=rip) (fl:=fl) hs.g o1 hz' (reg0 z)
   have s2:=jP (g:=qf g 0 z q) (rip:=rip) (fl:=fl) (lH hs.g o1 hz') o2 hz' (pO z)
   rw[bD,ak,aa,ah]
   dsimp only[dX]
   rw[hz,s1,aa]
   dsimp only
   rw[s2,aa]
   exact⟨_,0,l1,fl,rfl,rfl,rfl,fun _=>⟨rfl,rfl,rfl⟩⟩
theorem BB (hx:ExV x n)(hz:x.size=z)(hI:I64 fl)(hf:bU fl=true)(hn:13<=n/\n<=16):fR g m c l x rip fl nx (((MS.mk g m c l).wide fl nx x n z).1,nx,((MS.mk g m c l).wide fl nx x n z).2):=by
 have hop:=hx.op
 obtain⟨g',c',l',fl',hr,hR⟩:=wide_r hs hk hx hz hI hf hn (rip:=rip) (nx:=nx)
 generalize (((MS.mk g m c l).wide fl nx x n z).1,nx,((MS.mk g m c l).wide fl nx x n z).2)=e at hR|-
 unfold fR aY
 dsimp only
 rw[hop,CF,aa,ah,dF]
 dsimp only
 rw[ak,show(dX x ()).1=(n:Int)from hop,Fo,aa,ah,dF]
 dsimp only
 rw[ak,show(dX x ()).1=(n:Int)from hop,ct,bE,aa,dF]
 dsimp only
 rw[ak,aq,ak,aq,ak,aq,ak,aq,ak,aq,ak,aq,ak,bE,aa]
 dsimp only
 rw[Do,dT,aE,hr,aa]
 exact⟨⟨g',m,c',l'⟩,fl',nx,rfl,hR⟩
theorem BA (hx:ExV x n)(hn:29<=n){e:MS×Int×Int}{S:MS}{fl' nx':Int}(hr:aG ((x,()),(g,rip,fl,m,nx,c,()),l,())=some ((),S.r rip fl' nx'))(hR:RelR S nx' fl' e):fR g m c l x rip fl nx e:=by
 have hop:=hx.op
 unfold fR aY
 dsimp only
 rw[hop,CF,aa,ah,dF]
 dsimp only
 rw[ak,show(dX x ()).1=(n:Int)from hop,Fo,aa,ah,dF]
 dsimp only
 rw[ak,show(dX x ()).1=(n:Int)from hop,ct,bE,aa,dF]
 dsimp only
 rw[ak,aq,ak,aq,ak,aq,ak,aq,ak,aq,ak,aq,ak,bE,aa]
 dsimp only
 rw[Do,dF,ak,hr,aa]
 exact⟨S,fl',nx',rfl,hR⟩
end
end
set_option linter.unusedSectionVars false
noncomputable section
theorem Ev (g:List Int)(v w:Int):setA (setA g 7 v) 6 w=setA (setA g 6 w) 7 v:=by
 have hp:∀i a,dW 16 (az .i) (Go.Den.G.setA g i a)=Go.Den.G.setA g i a:=fun i a=>by
  unfold Go.Den.G.setA cD
  unfold dW
  rw[List.length_set,List.length_append,List.length_replicate,show 16-(g.length+(16-g.length))=0 by omega]
  simp
 have h1:setA (setA g 7 v) 6 w=cD (setA g 7 v) 6 w:=by rw[Go.Den.G.setA,hp]
 have h2:setA (setA g 6 w) 7 v=cD (setA g 6 w) 7 v:=by rw[Go.Den.G.setA,hp]
 rw[h1,h2]
 unfold Go.Den.G.setA cD
 exact(List.set_comm w v (by decide)).symm
theorem xr (g:List Int)(v:Int):rg (setA g 6 v) 7=rg g 7/\rg (setA g 7 v) 6=rg g 6:=by
 have hp:∀j:Nat,(dW 16 (az .i) g).getD j (az .i)=g.getD j (az .i):=fun j=>by
  unfold dW
  rw[List.getD_eq_getElem?_getD,List.getD_eq_getElem?_getD,List.getElem?_append]
  split
  ·rfl
  ·rw[List.getElem?_replicate,List.getElem?_eq_none (by omega)]
   split<;>rfl
 unfold rg aR Go.Den.G.setA cD
 constructor
 ·rw[List.getD_eq_getElem?_getD,List.getElem?_set_ne (by decide),<-List.getD_eq_getElem?_getD,hp]
 ·rw[List.getD_eq_getElem?_getD,List.getElem?_set_ne (by decide),<-List.getD_eq_getElem?_getD,hp]
section
variable {g:List Int}{m:List Page}{c:Int}{l:List Acc}{k:Nat}(hs:(MS.mk g m c l).ok k)(hk:k+4<=1000){x:Ins}{z:Nat}{rip fl nx:Int}
include hs hk
def m7 (g:List Int)(m:List Page)(c:Int)(l:List Acc)(x:Ins)(rip fl nx:Int)(e:MS×Int×Int):Prop:=
 ∃S fl' nx',aG ((x,()),(g,rip,fl,m,nx,c,()),l,())=some ((),S.r rip fl' nx')/\RelR S nx' fl' e
theorem GX (hx:ExV x 35):m7 g m c l x rip fl nx ((MS.mk g m c l).move fl nx x 35 z,nx,fl):=by
 have hop:=hx.op
 have hdv:=hx.dv
 rw[hx.szs.2.2.2.1 rfl]at hdv
 obtain⟨g',m',c',l',e2,r2,ok2⟩:=ptq hs (by omega) (n:=1) rfl hdv (hx.kd.1 (by omega)) nx (show I64 (if jo x.cond fl=true then 1 else 0)by split<;>(unfold I64;decide))
 have r2':∀rip fl',aL ((da x.dst (),1,(if jo x.cond fl=true then 1 else 0),()),(g,rip,fl',m,nx,c,()),l,())=_:=r2
 have hre:(MS.mk g m c l).move fl nx x 35 z=⟨g',m',c',l'⟩:=by
  unfold MS.move
  rw[iD,iD,iD,iD,iD,if_pos rfl]
  exact e2
 rw[hre]
 unfold m7
 unfold aG
 dsimp only
 rw[hop,be,aE]
 rw[od hx.c0 hx.c1,aa,wJ,aa,r2',aa]
 exact⟨⟨g',m',c',l'⟩,fl,nx,rfl,.same rfl⟩
theorem GY (hx:ExV x 36)(hz:x.size=z):m7 g m c l x rip fl nx ((MS.mk g m c l).move fl nx x 36 z,nx,fl):=by
 have hop:=hx.op
 have hz':cl (z:Int)=true:=by rw[<-hz];exact hx.szs.1 (by omega)
 have hdv:=hx.dv
 have hsv:=hx.sv
 rw[hz]at hdv
 rw[show sSz x 36=x.size from by unfold sSz;rw[iD,hx.fr.2 (by decide),iD],hz]at hsv
 obtain⟨v1,c1,l1,e1,r1,ok1,I1⟩:=gtq hs (by omega) hz' hsv nx
 obtain⟨v2,c2,l2,e2,r2,ok2,I2⟩:=gtq ok1 (by omega) hz' hdv nx
 unfold m7
 unfold aG
 dsimp only
 rw[hop,aq,ak,be,aE]
 rw[hz,r1,aa,od hx.c0 hx.c1,aa]
 dsimp only[d5]
 by_cases hh:jo x.cond fl=true
 ·obtain⟨g',m',c',l',e3,r3,ok3⟩:=ptq ok1 (by omega) hz' hdv (hx.kd.1 (by omega)) nx I1
  unfold da at r3
  have hre:(MS.mk g m c l).move fl nx x 36 z=⟨g',m',c',l'⟩:=by
   unfold MS.move
   dsimp only
   rw[iD,iD,iD,iD,iD,iD,if_pos rfl,e1,if_pos hh]
   exact e3
  rw[hre,hh,bD,ak,aa,ah]
  dsimp only[dX,da,cp7,d5]
  rw[hz,r3,aa]
  exact⟨⟨g',m',c',l'⟩,fl,nx,rfl,.same rfl⟩
 ·obtain⟨g',m',c',l',e3,r3,ok3⟩:=ptq ok2 (by omega) hz' hdv (hx.kd.1 (by omega)) nx I2
  unfold da at r3
  have hre:(MS.mk g m c l).move fl nx x 36 z=⟨g',m',c',l'⟩:=by
   unfold MS.move
   dsimp only
   rw[iD,iD,iD,iD,iD,iD,if_pos rfl,e1,if_neg hh]
   dsimp only
   rw[e2]
   exact e3
  rw[hre,Bool.eq_false_iff.2 hh,bS,aE,r2,aa,aa,ah]
  dsimp only[dX,da,cp7,d5]
  rw[hz,r3,aa]
  exact⟨⟨g',m',c',l'⟩,fl,nx,rfl,.same rfl⟩
theorem G1 (hx:ExV x 39)(hz:x.size=z):m7 g m c l x rip fl nx ((MS.mk g m c l).move fl nx x 39 z,nx,fl):=by
 have hop:=hx.op
 have h39:=hx.szs.2.1 rfl
 rw[hz]at h39
 have hz':cl (z:Int)=true:=by rcases h39 with h|h|h<;>rw[h]<;>rfl
 have hz2:cl ((z/2:Nat):Int)=true:=by rcases h39 with h|h|h<;>rw[show z/2=_ from by rw[show z=_ from Int.ofNat_inj.1 h]]<;>rfl
 have h18:=dM hz2
 have hq:kG .i64 (z:Int) 2=((z/2:Nat):Int):=by rw[fU (by omega) (by decide) (by omega)];omega
 have hsg:=gK (rg g 0) ((z/2:Nat):Int) (by omega) (by omega)
 rw[show(8*((z/2:Nat):Int)-1).toNat=8*(z/2)-1 by omega]at hsg
 have hI:I64 (sx (8*(z/2)-1) (rg g 0)):=iF _ (by omega) _
 have hst:=jP (g:=g) (rip:=rip) (fl:=fl) hs.g hI hz' (reg0 z)
 have hre:(MS.mk g m c l).move fl nx x 39 z=⟨qf g 0 z (sx (8*(z/2)-1) (rg g 0)),m,c,l⟩:=by
  unfold MS.move
  rw[iD,iD,iD,iD,iD,iD,iD,if_pos rfl,show ll (MS.mk g m c l).g 0 (z/2)=bW (rg g 0) (z/2)from iD,EV hz2]
 rw[hre]
 unfold m7
 unfold aG
 dsimp only
 rw[hop,aq,ak,aq,ak,be,aE]
 rw[hz,hq]
 have hsg':aJ (((aR g 0 (az .i)),((z/2:Nat):Int),()),())=_:=hsg
 rw[hsg',aa,hst,aa]
 exact⟨_,fl,nx,rfl,.same rfl⟩
theorem G2 (hx:ExV x 40)(hz:x.size=z):m7 g m c l x rip fl nx ((MS.mk g m c l).move fl nx x 40 z,nx,fl):=by
 have hop:=hx.op
 have hz':cl (z:Int)=true:=by rw[<-hz];exact hx.szs.1 (by omega)
 have h18:=dM hz'
 have hsg:=gK (rg g 0) (z:Int) (by omega) (by omega)
 rw[show(8*(z:Int)-1).toNat=8*z-1 by omega]at hsg
 have hI0:I64 (sx (8*z-1) (rg g 0)):=iF _ (by omega) _
 have hI:I64 (cu .i64 (sx (8*z-1) (rg g 0)) 63):=by
  rw[EB hI0]
  split<;>(unfold I64;decide)
 have hst:=jP (g:=g) (r:=2) (rip:=rip) (fl:=fl) hs.g hI hz' (by unfold sd;omega)
 have hre:(MS.mk g m c l).move fl nx x 40 z=⟨qf g 2 z (cu .i64 (sx (8*z-1) (rg g 0)) 63),m,c,l⟩:=by
  unfold MS.move
  rw[iD,iD,iD,iD,iD,iD,iD,iD,if_pos rfl,show ll (MS.mk g m c l).g 0 z=bW (rg g 0) z from iD,EV hz']
 rw[hre]
 unfold m7
 unfold aG
 dsimp only
 rw[hop,aq,ak,aq,ak,aq,ak,be,aE]
 rw[hz]
 have hsg':aJ (((aR g 0 (az .i)),(z:Int),()),())=_:=hsg
 rw[hsg',aa,hst,aa]
 exact⟨_,fl,nx,rfl,.same rfl⟩
theorem G3 (hx:ExV x 41):m7 g m c l x rip fl nx (((MS.mk g m c l).flow nx fl nx x 41).1,((MS.mk g m c l).flow nx fl nx x 41).2,fl):=by
 have hop:=hx.op
 obtain⟨m',c',l',e1,r1,ok1⟩:=stq hs (by omega) (hs.g 7) (n:=1) rfl (hs.g 0)
 have r1':bg ((aR g 7 (az .i),1,aR g 0 (az .i),()),(g,rip,fl,m,nx,c,()),l,())=_:=r1 rip fl nx
 have hre:(MS.mk g m c l).flow nx fl nx x 41=(⟨setA g 7 (aA .i64 (rg g 7) 1),m',c',l'⟩,nx):=by
  unfold MS.flow
  rw[iD,iD,iD,iD,iD,iD,if_pos rfl]
  dsimp only
  rw[e1]
 rw[hre]
 unfold m7
 unfold aG
 dsimp only
 rw[hop,aq,ak,aq,ak,aq,ak,aq,ak,be,aE]
 rw[r1',aa,ec,aa]
 exact⟨_,fl,nx,rfl,.same rfl⟩
theorem G4 (hx:ExV x 42):m7 g m c l x rip fl nx (((MS.mk g m c l).flow nx fl nx x 42).1,((MS.mk g m c l).flow nx fl nx x 42).2,fl):=by
 have hop:=hx.op
 obtain⟨v1,c1,l1,e1,r1,ok1,I1⟩:=ldq hs (by omega) (hs.g 6) (n:=1) rfl
 obtain⟨m',c',l',e2,r2,ok2⟩:=stq ok1 (by omega) (hs.g 7) (n:=1) rfl I1
 have r1':bA ((aR g 6 (az .i),1,()),(g,rip,fl,m,nx,c,()),l,())=_:=r1 rip fl nx
 have r2':bg ((aR g 7 (az .i),1,v1,()),(g,rip,fl,m,nx,c1,()),l1,())=_:=r2 rip fl nx
 have hre:(MS.mk g m c l).flow nx fl nx x 42=(⟨setA (setA g 7 (aA .i64 (rg g 7) 1)) 6 (aA .i64 (rg g 6) 1),m',c',l'⟩,nx):=by
  unfold MS.flow
  rw[iD,iD,iD,iD,iD,iD,iD,if_pos rfl]
  dsimp only
  rw[e1]
  dsimp only
  rw[e2]
  dsimp only
  rw[(xr g _).1,Ev]
 rw[hre]
 unfold m7
 unfold aG
 dsimp only
 rw[hop,aq,ak,aq,ak,aq,ak,aq,ak,aq,ak,be,aE]
 rw[r1',aa]
 dsimp only[d5]
 rw[r2',aa,ec,aa]
 dsimp only
 have h6:aW (((aR (cD (dW 16 (az .i) g) 7 (aA .i64 (aR g 7 (az .i)) 1)) 6 (az .i)),1,()),())=some (aA .i64 (rg g 6) 1,()):=by
  rw[ec]
  have:=(xr g (aA .i64 (aR g 7 (az .i)) 1)).2
  unfold rg Go.Den.G.setA at this
  rw[this]
 rw[h6,aa]
 exact⟨_,fl,nx,rfl,.same rfl⟩
theorem GR (hx:ExV x 29):m7 g m c l x rip fl nx (((MS.mk g m c l).flow nx fl nx x 29).1,((MS.mk g m c l).flow nx fl nx x 29).2,fl):=by
 have hop:=hx.op
 have hsv:=hx.sv
 rw[show sSz x 29=x.size from by unfold sSz;rw[iD,hx.fr.2 (by decide),iD],hx.szs.2.2.1 (by decide)]at hsv
 obtain⟨v1,c1,l1,e1,r1,ok1,I1⟩:=gtq hs (by omega) (n:=8) rfl hsv nx
 obtain⟨g',m',c',l',e2,r2,ok2⟩:=puq ok1 (by omega) I1
 have r1':ax ((da x.src (),8,()),(g,rip,fl,m,nx,c,()),l,())=_:=r1 rip fl
 have hre:(MS.mk g m c l).flow nx fl nx x 29=(⟨g',m',c',l'⟩,nx):=by
  unfold MS.flow
  rw[if_pos rfl,e1]
  dsimp only
  rw[e2]
 rw[hre]
 unfold m7
 unfold aG
 dsimp only
 rw[hop,aq,ak,aq,ak,aq,ak,aq,ak,aq,ak,aq,ak,be,aE]
 rw[r1',aa]
 dsimp only[d5]
 rw[r2,aa]
 exact⟨⟨g',m',c',l'⟩,fl,nx,rfl,.same rfl⟩
theorem GS (hx:ExV x 30):m7 g m c l x rip fl nx (((MS.mk g m c l).flow nx fl nx x 30).1,((MS.mk g m c l).flow nx fl nx x 30).2,fl):=by
 have hop:=hx.op
 have hdv:=hx.dv
 rw[hx.szs.2.2.1 (by decide)]at hdv
 obtain⟨v1,g1,c1,l1,e1,r1,ok1,I1⟩:=poq hs (by omega)
 obtain⟨g',m',c',l',e2,r2,ok2⟩:=ptq ok1 (by omega) (n:=8) rfl hdv (hx.kd.1 (by decide)) nx I1
 have r2':aL ((da x.dst (),8,v1,()),(g1,rip,fl,m,nx,c1,()),l1,())=_:=r2 rip fl
 have hre:(MS.mk g m c l).flow nx fl nx x 30=(⟨g',m',c',l'⟩,nx):=by
  unfold MS.flow
  rw[iD,if_pos rfl,e1]
  dsimp only
  rw[e2]
 rw[hre]
 unfold m7
 unfold aG
 dsimp only
 rw[hop,aq,ak,aq,ak,aq,ak,aq,ak,aq,ak,aq,ak,aq,ak,be,aE]
 rw[r1,aa]
 dsimp only[d5]
 rw[r2',aa]
 exact⟨⟨g',m',c',l'⟩,fl,nx,rfl,.same rfl⟩
theorem G0 (hx:ExV x 38):m7 g m c l x rip fl nx (((MS.mk g m c l).flow nx fl nx x 38).1,((MS.mk g m c l).flow nx fl nx x 38).2,fl):=by
 have hop:=hx.op
 have hre:(MS.mk g m c l).flow nx fl nx x 38=(⟨g,m,17,l⟩,nx):=by
  unfold MS.flow
  rw[iD,iD,iD,iD,iD,iD,iD,iD,if_pos rfl]
 rw[hre]
 unfold m7
 unfold aG
 dsimp only
 rw[hop,aq,ak,aq,ak,aq,ak,aq,ak,aq,ak,aq,ak,aq,ak,aq,ak,be,aE]
 exact⟨⟨g,m,17,l⟩,fl,nx,rfl,.same rfl⟩
theorem G5 (hx:ExV x 43):m7 g m c l x rip fl nx (((MS.mk g m c l).flow nx fl nx x 43).1,((MS.mk g m c l).flow nx fl nx x 43).2,fl):=by
 have hop:=hx.op
 have hre:(MS.mk g m c l).flow nx fl nx x 43=(⟨g,m,18,l⟩,nx):=by
  unfold MS.flow
  rw[iD,iD,iD,iD,iD,iD,iD,iD,iD,if_pos (by decide)]
 rw[hre]
 unfold m7
 unfold aG
 dsimp only
 rw[hop,aq,ak,aq,ak,aq,ak,aq,ak,aq,ak,aq,ak,aq,ak,aq,ak,aq,ak]
 rw[show eqI ((43:Nat):Int) 43=true from rfl,aE,aa,ah]
 dsimp only
 rw[aE]
 exact⟨⟨g,m,18,l⟩,fl,nx,rfl,.same rfl⟩
theorem G6 (hx:ExV x 44):m7 g m c l x rip fl nx (((MS.mk g m c l).flow nx fl nx x 44).1,((MS.mk g m c l).flow nx fl nx x 44).2,fl):=by
 have hop:=hx.op
 have hre:(MS.mk g m c l).flow nx fl nx x 44=(⟨g,m,18,l⟩,nx):=by
  unfold MS.flow
  rw[iD,iD,iD,iD,iD,iD,iD,iD,iD,if_pos (by decide)]
 rw[hre]
 unfold m7
 unfold aG
 dsimp only
 rw[hop,aq,ak,aq,ak,aq,ak,aq,ak,aq,ak,aq,ak,aq,ak,aq,ak,aq,ak]
 rw[show eqI ((44:Nat):Int) 43=false from rfl,ak,aa,ah]
 dsimp only
 rw[show eqI ((44:Nat):Int) 44=true from rfl,aE]
 exact⟨⟨g,m,18,l⟩,fl,nx,rfl,.same rfl⟩
theorem GT (hx:ExV x 31)(hnx:I64 nx):m7 g m c l x rip fl nx (((MS.mk g m c l).flow nx fl nx x 31).1,((MS.mk g m c l).flow nx fl nx x 31).2,fl):=by
 have hop:=hx.op
 have hsv:=hx.sv
 rw[show sSz x 31=x.size from by unfold sSz;rw[iD,hx.fr.2 (by decide),iD],hx.szs.2.2.1 (by decide)]at hsv
 obtain⟨v1,c1,l1,e1,r1,ok1,I1⟩:=goq hs (by omega) hsv nx
 obtain⟨g',m',c',l',e2,r2,ok2⟩:=puq ok1 (by omega) hnx
 have hre:(MS.mk g m c l).flow nx fl nx x 31=(⟨g',m',c',l'⟩,v1):=by
  unfold MS.flow
  rw[iD,iD,if_pos rfl,e1]
  dsimp only
  rw[e2]
 rw[hre]
 unfold m7
 unfold aG
 dsimp only
 rw[hop,aq,ak,aq,ak,aq,ak,aq,ak,aq,ak,aq,ak,aq,ak,aq,ak,aq,ak]
 rw[show eqI ((31:Nat):Int) 43=false from rfl,ak,aa,ah]
 dsimp only
 rw[show eqI ((31:Nat):Int) 44=false from rfl,ak,Do]
 unfold cq
 dsimp only
 rw[hop,be,aE]
 rw[r1,aa]
 dsimp only[d5]
 rw[r2,aa]
 exact⟨⟨g',m',c',l'⟩,fl,v1,rfl,.same rfl⟩
theorem GU (hx:ExV x 32):m7 g m c l x rip fl nx (((MS.mk g m c l).flow nx fl nx x 32).1,((MS.mk g m c l).flow nx fl nx x 32).2,fl):=by
 have hop:=hx.op
 have hsv:=hx.sv
 rw[show sSz x 32=x.size from by unfold sSz;rw[iD,hx.fr.2 (by decide),iD],hx.szs.2.2.1 (by decide)]at hsv
 obtain⟨v1,c1,l1,e1,r1,ok1,I1⟩:=goq hs (by omega) hsv nx
 have hre:(MS.mk g m c l).flow nx fl nx x 32=(⟨g,m,c1,l1⟩,v1):=by
  unfold MS.flow
  rw[iD,iD,iD,iD,if_pos rfl,e1]
 rw[hre]
 unfold m7
 unfold aG
 dsimp only
 rw[hop,aq,ak,aq,ak,aq,ak,aq,ak,aq,ak,aq,ak,aq,ak,aq,ak,aq,ak]
 rw[show eqI ((32:Nat):Int) 43=false from rfl,ak,aa,ah]
 dsimp only
 rw[show eqI ((32:Nat):Int) 44=false from rfl,ak,Do]
 unfold cq
 dsimp only
 rw[hop,aq,ak,be,aE]
 rw[r1,aa]
 exact⟨⟨g,m,c1,l1⟩,fl,v1,rfl,.same rfl⟩
theorem GV (hx:ExV x 33):m7 g m c l x rip fl nx (((MS.mk g m c l).flow nx fl nx x 33).1,((MS.mk g m c l).flow nx fl nx x 33).2,fl):=by
 have hop:=hx.op
 have hk3:=hx.kd.2.2.2.2.2.2.2.1 rfl
 have hgo:∀s:MS,s.go nx x=(aA .i64 nx x.src.imm,s):=fun s=>if_pos hk3
 have hg2:bO ((x,()),(g,rip,fl,m,nx,c,()),l,())=some (aA .i64 nx x.src.imm,(g,rip,fl,m,nx,c,()),l,()):=by
  unfold bO
  dsimp only
  rw[be hk3,aE,ec,aa]
 have hre:(MS.mk g m c l).flow nx fl nx x 33=(⟨g,m,c,l⟩,if jo x.cond fl=true then aA .i64 nx x.src.imm else nx):=by
  unfold MS.flow
  rw[iD,iD,iD,iD,iD,if_pos rfl,hgo]
  split<;>rfl
 rw[hre]
 unfold m7
 unfold aG
 dsimp only
 rw[hop,aq,ak,aq,ak,aq,ak,aq,ak,aq,ak,aq,ak,aq,ak,aq,ak,aq,ak]
 rw[show eqI ((33:Nat):Int) 43=false from rfl,ak,aa,ah]
 dsimp only
 rw[show eqI ((33:Nat):Int) 44=false from rfl,ak,Do]
 unfold cq
 dsimp only
 rw[hop,aq,ak,aq,ak,be,aE]
 rw[od hx.c0 hx.c1,aa]
 dsimp only
 by_cases hh:jo x.cond fl=true
 ·rw[hh,aE,hg2,aa,if_pos rfl]
  exact⟨⟨g,m,c,l⟩,fl,_,rfl,.same rfl⟩
 ·rw[Bool.eq_false_iff.2 hh,ak,iD]
  exact⟨⟨g,m,c,l⟩,fl,_,rfl,.same rfl⟩
theorem GW (hx:ExV x 34):m7 g m c l x rip fl nx (((MS.mk g m c l).flow nx fl nx x 34).1,((MS.mk g m c l).flow nx fl nx x 34).2,fl):=by
 have hop:=hx.op
 obtain⟨v1,g1,c1,l1,e1,r1,ok1,I1⟩:=poq hs (by omega)
 have hre:(MS.mk g m c l).flow nx fl nx x 34=(⟨g1,m,c1,l1⟩,v1):=by
  unfold MS.flow
  rw[iD,iD,iD,if_pos rfl,e1]
 rw[hre]
 unfold m7
 unfold aG
 dsimp only
 rw[hop,aq,ak,aq,ak,aq,ak,aq,ak,aq,ak,aq,ak,aq,ak,aq,ak,aq,ak]
 rw[show eqI ((34:Nat):Int) 43=false from rfl,ak,aa,ah]
 dsimp only
 rw[show eqI ((34:Nat):Int) 44=false from rfl,ak,Do]
 unfold cq
 dsimp only
 rw[hop,aq,ak,aq,ak,aq,ak,be,aE]
 rw[r1,aa]
 exact⟨⟨g1,m,c1,l1⟩,fl,v1,rfl,.same rfl⟩
theorem GZ (hx:ExV x 37):m7 g m c l x rip fl nx (((MS.mk g m c l).flow nx fl nx x 37).1,((MS.mk g m c l).flow nx fl nx x 37).2,fl):=by
 have hop:=hx.op
 have hre:(MS.mk g m c l).flow nx fl nx x 37=(⟨g,m,c,l⟩,nx):=by
  unfold MS.flow
  rw[iD,iD,iD,iD,iD,iD,iD,iD,iD,iD]
 rw[hre]
 unfold m7
 unfold aG
 dsimp only
 rw[hop,aq,ak,aq,ak,aq,ak,aq,ak,aq,ak,aq,ak,aq,ak,aq,ak,aq,ak]
 rw[show eqI ((37:Nat):Int) 43=false from rfl,ak,aa,ah]
 dsimp only
 rw[show eqI ((37:Nat):Int) 44=false from rfl,ak,Do]
 unfold cq
 dsimp only
 rw[hop,aq,ak,aq,ak,aq,ak,aq,ak]
 exact⟨⟨g,m,c,l⟩,fl,nx,rfl,.same rfl⟩
end
end
end Go.Den.G
