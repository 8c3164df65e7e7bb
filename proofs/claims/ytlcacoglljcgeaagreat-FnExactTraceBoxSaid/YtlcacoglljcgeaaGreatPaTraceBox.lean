/- Theory for the proofs of this claim: see its last text. -/
import Derived.Test.YtlcacoglljcgeaaGreatFnTraceBox
import Derived.Test.YtlcacoglljcgeaaGreatDenF
import Derived.KernelRfl
import Derived.Laws.MathBits
section
set_option linter.unusedVariables false
noncomputable section
namespace Go.Den.G
def sC (x1:((Int×Unit)×Unit)):Option (((List Int)×((List UInt8)×Unit))×Unit):=
 (bnd (am ((x1.1.1,1,9,()),())) (fun(x2:(Bool×Unit))=>br x2.1 (some (((1::(2::(4::(8::([]:List Int))))),(114::(114::(32::(109::(114::(32::(114::(109::(32::(114::(105::(32::(109::(105::([]:List UInt8))))))))))))))),()),())) (bnd (br (eqI x1.1.1 10) (some Bool.true) (bnd (dh x1) (fun(x3:(Bool×Unit))=>some x3.1))) (fun(x4:Bool)=>br x4 (some (((1::(2::(4::(8::([]:List Int))))),(114::(114::(32::(109::(114::(32::(114::(105::(32::(109::(105::([]:List UInt8)))))))))))),()),())) (br (eqI x1.1.1 28) (some (((1::(2::(4::(8::([]:List Int))))),(114::(114::(32::(109::(114::([]:List UInt8)))))),()),())) (bnd (br (eqI x1.1.1 11) (some (Sum.inl ((x1.1.1,(eqI x1.1.1 11),()),(1::(2::(4::(8::([]:List Int))))),(2::(4::(8::([]:List Int)))),(8::([]:List Int)),(0::([]:List Int)),()))) (bnd (br (eqI x1.1.1 12) (some (Sum.inl ((x1.1.1,(eqI x1.1.1 12),()),(1::(2::(4::(8::([]:List Int))))),(2::(4::(8::([]:List Int)))),(8::([]:List Int)),(0::([]:List Int)),()))) (bnd (br (eqI x1.1.1 18) (some (Sum.inl ((x1.1.1,(eqI x1.1.1 18),()),(1::(2::(4::(8::([]:List Int))))),(2::(4::(8::([]:List Int)))),(8::([]:List Int)),(0::([]:List Int)),()))) (some (Sum.inl ((x1.1.1,(eqI x1.1.1 19),()),(1::(2::(4::(8::([]:List Int))))),(2::(4::(8::([]:List Int)))),(8::([]:List Int)),(0::([]:List Int)),())))) (fun(x5:(Sum ((Int×(Bool×Unit))×((List Int)×((List Int)×((List Int)×((List Int)×Unit))))) (Sum ((Int×(Bool×Unit))×((List Int)×((List Int)×((List Int)×((List Int)×Unit))))) (Sum ((Int×(Bool×Unit))×((List Int)×((List Int)×((List Int)×((List Int)×Unit))))) (((List Int)×((List UInt8)×Unit))×Unit)))))=>aU x5 (fun(x6:((Int×(Bool×Unit))×((List Int)×((List Int)×((List Int)×((List Int)×Unit))))))=>some (Sum.inl x6)) some))) (fun(x7:(Sum ((Int×(Bool×Unit))×((List Int)×((List Int)×((List Int)×((List Int)×Unit))))) (Sum ((Int×(Bool×Unit))×((List Int)×((List Int)×((List Int)×((List Int)×Unit))))) (((List Int)×((List UInt8)×Unit))×Unit))))=>aU x7 (fun(x8:((Int×(Bool×Unit))×((List Int)×((List Int)×((List Int)×((List Int)×Unit))))))=>some (Sum.inl x8)) some))) (fun(x9:(Sum ((Int×(Bool×Unit))×((List Int)×((List Int)×((List Int)×((List Int)×Unit))))) (((List Int)×((List UInt8)×Unit))×Unit)))=>aU x9 (fun(x10:((Int×(Bool×Unit))×((List Int)×((List Int)×((List Int)×((List Int)×Unit))))))=>br x10.1.2.1 (some ((x10.2.1,(114::(45::(32::(109::(45::([]:List UInt8)))))),()),())) (bnd (br (eqI x10.1.1 13) (some (Sum.inl ((x10.1.1,(eqI x10.1.1 13),()),x10.2))) (bnd (br (eqI x10.1.1 14) (some (Sum.inl ((x10.1.1,(eqI x10.1.1 14),()),x10.2))) (bnd (br (eqI x10.1.1 15) (some (Sum.inl ((x10.1.1,(eqI x10.1.1 15),()),x10.2))) (some (Sum.inl ((x10.1.1,(eqI x10.1.1 16),()),x10.2)))) (fun(x11:(Sum ((Int×(Bool×Unit))×((List Int)×((List Int)×((List Int)×((List Int)×Unit))))) (Sum ((Int×(Bool×Unit))×((List Int)×((List Int)×((List Int)×((List Int)×Unit))))) (Sum ((Int×(Bool×Unit))×((List Int)×((List Int)×((List Int)×((List Int)×Unit))))) (((List Int)×((List UInt8)×Unit))×Unit)))))=>aU x11 (fun(x12:((Int×(Bool×Unit))×((List Int)×((List Int)×((List Int)×((List Int)×Unit))))))=>some (Sum.inl x12)) some))) (fun(x13:(Sum ((Int×(Bool×Unit))×((List Int)×((List Int)×((List Int)×((List Int)×Unit))))) (Sum ((Int×(Bool×Unit))×((List Int)×((List Int)×((List Int)×((List Int)×Unit))))) (((List Int)×((List UInt8)×Unit))×Unit))))=>aU x13 (fun(x14:((Int×(Bool×Unit))×((List Int)×((List Int)×((List Int)×((List Int)×Unit))))))=>some (Sum.inl x14)) some))) (fun(x15:(Sum ((Int×(Bool×Unit))×((List Int)×((List Int)×((List Int)×((List Int)×Unit))))) (((List Int)×((List UInt8)×Unit))×Unit)))=>aU x15 (fun(x16:((Int×(Bool×Unit))×((List Int)×((List Int)×((List Int)×((List Int)×Unit))))))=>br x16.1.2.1 (some ((x16.2.1,(45::(114::(32::(45::(109::([]:List UInt8)))))),()),())) (bnd (br (eqI x16.1.1 17) (some (Sum.inl ((x16.1.1,(eqI x16.1.1 17),()),x16.2.2))) (bnd (br (eqI x16.1.1 36) (some (Sum.inl ((x16.1.1,(eqI x16.1.1 36),()),x16.2.2))) (bnd (br (eqI x16.1.1 26) (some (Sum.inl ((x16.1.1,(eqI x16.1.1 26),()),x16.2.2))) (some (Sum.inl ((x16.1.1,(eqI x16.1.1 27),()),x16.2.2)))) (fun(x17:(Sum ((Int×(Bool×Unit))×((List Int)×((List Int)×((List Int)×Unit)))) (Sum ((Int×(Bool×Unit))×((List Int)×((List Int)×((List Int)×Unit)))) (Sum ((Int×(Bool×Unit))×((List Int)×((List Int)×((List Int)×Unit)))) (((List Int)×((List UInt8)×Unit))×Unit)))))=>aU x17 (fun(x18:((Int×(Bool×Unit))×((List Int)×((List Int)×((List Int)×Unit)))))=>some (Sum.inl x18)) some))) (fun(x19:(Sum ((Int×(Bool×Unit))×((List Int)×((List Int)×((List Int)×Unit)))) (Sum ((Int×(Bool×Unit))×((List Int)×((List Int)×((List Int)×Unit)))) (((List Int)×((List UInt8)×Unit))×Unit))))=>aU x19 (fun(x20:((Int×(Bool×Unit))×((List Int)×((List Int)×((List Int)×Unit)))))=>some (Sum.inl x20)) some))) (fun(x21:(Sum ((Int×(Bool×Unit))×((List Int)×((List Int)×((List Int)×Unit)))) (((List Int)×((List UInt8)×Unit))×Unit)))=>aU x21 (fun(x22:((Int×(Bool×Unit))×((List Int)×((List Int)×((List Int)×Unit)))))=>br x22.1.2.1 (some ((x22.2.1,(114::(114::(32::(114::(109::([]:List UInt8)))))),()),())) (br (eqI x22.1.1 25) (some ((x22.2.1,(114::(109::([]:List UInt8))),()),())) (bnd (br (eqI x22.1.1 29) (some (Sum.inl ((x22.1.1,(eqI x22.1.1 29),()),x22.2))) (bnd (br (eqI x22.1.1 31) (some (Sum.inl ((x22.1.1,(eqI x22.1.1 31),()),x22.2))) (some (Sum.inl ((x22.1.1,(eqI x22.1.1 32),()),x22.2)))) (fun(x23:(Sum ((Int×(Bool×Unit))×((List Int)×((List Int)×((List Int)×Unit)))) (Sum ((Int×(Bool×Unit))×((List Int)×((List Int)×((List Int)×Unit)))) (((List Int)×((List UInt8)×Unit))×Unit))))=>aU x23 (fun(x24:((Int×(Bool×Unit))×((List Int)×((List Int)×((List Int)×Unit)))))=>some (Sum.inl x24)) some))) (fun(x25:(Sum ((Int×(Bool×Unit))×((List Int)×((List Int)×((List Int)×Unit)))) (((List Int)×((List UInt8)×Unit))×Unit)))=>aU x25 (fun(x26:((Int×(Bool×Unit))×((List Int)×((List Int)×((List Int)×Unit)))))=>br x26.1.2.1 (some ((x26.2.2.1,(45::(114::(32::(45::(109::(32::(45::(105::([]:List UInt8))))))))),()),())) (br (eqI x26.1.1 30) (some ((x26.2.2.1,(114::(45::(32::(109::(45::([]:List UInt8)))))),()),())) (bnd (br (eqI x26.1.1 33) (some (Sum.inl ((x26.1.1,(eqI x26.1.1 33),()),x26.2.1,x26.2.2.2))) (some (Sum.inl ((x26.1.1,(eqI x26.1.1 44),()),x26.2.1,x26.2.2.2)))) (fun(x27:(Sum ((Int×(Bool×Unit))×((List Int)×((List Int)×Unit))) (((List Int)×((List UInt8)×Unit))×Unit)))=>aU x27 (fun(x28:((Int×(Bool×Unit))×((List Int)×((List Int)×Unit))))=>br x28.1.2.1 (some ((x28.2.2.1,(45::(105::([]:List UInt8))),()),())) (br (eqI x28.1.1 35) (some (((1::([]:List Int)),(114::(45::(32::(109::(45::([]:List UInt8)))))),()),())) (bnd (br (eqI x28.1.1 39) (some (Sum.inl ((x28.1.1,(eqI x28.1.1 39),()),x28.2))) (some (Sum.inl ((x28.1.1,(eqI x28.1.1 40),()),x28.2)))) (fun(x29:(Sum ((Int×(Bool×Unit))×((List Int)×((List Int)×Unit))) (((List Int)×((List UInt8)×Unit))×Unit)))=>aU x29 (fun(x30:((Int×(Bool×Unit))×((List Int)×((List Int)×Unit))))=>br x30.1.2.1 (some ((x30.2.1,(45::(45::([]:List UInt8))),()),())) (bnd (br (eqI x30.1.1 41) (some (Sum.inl (((eqI x30.1.1 41),()),x30.2.2))) (some (Sum.inl (((eqI x30.1.1 42),()),x30.2.2)))) (fun(x31:(Sum ((Bool×Unit)×((List Int)×Unit)) (((List Int)×((List UInt8)×Unit))×Unit)))=>aU x31 (fun(x32:((Bool×Unit)×((List Int)×Unit)))=>bnd (br x32.1.1 (some (Sum.inr (((1::([]:List Int)),(45::(45::([]:List UInt8))),()),()))) (some (Sum.inl x32))) (fun(x33:(Sum ((Bool×Unit)×((List Int)×Unit)) (((List Int)×((List UInt8)×Unit))×Unit)))=>aU x33 (fun(x34:((Bool×Unit)×((List Int)×Unit)))=>some ((x34.2.1,(45::(45::([]:List UInt8))),()),())) some)) some))) some)))) some)))) some)))) some))) some))) some)))))))
end Go.Den.G
end
end
namespace Go.Den.G
open Go.Den
def pg (m:List Page)(i:Int):Page:=aR m i (az .page)
def inB (a b c:Int):Bool:=decide (b<=a)&&decide (a<=c)
theorem qB (a b c:Int):aD ((a,b,c,()),())=some (inB a b c,()):=by
 unfold aD inB
 dsimp only
 by_cases h:b<=a
 ·rw[ae (fu h),aa];simp[leI,h]
 ·rw[ag (j9 h),aa];simp[h]
theorem mY (a b c:Int):am ((a,b,c,()),())=some (inB a b c,()):=qB a b c
def ll (b:Int):Bool:=inB b 0 65535&&eqI (fw b 256) 0
def mn (p:Int):Bool:=inB p 0 7
theorem tt (b:Int):ib ((b,()),())=some (ll b,()):=by
 unfold ib ll
 rw[qB,aa]
 dsimp only
 cases inB b 0 65535<;>simp[aE,ak,aa]
theorem Dt (b:Int):kb ((b,()),())=some (ll b,()):=tt b
theorem tu (b:Int):ic ((b,()),())=some (mn b,()):=by
 unfold ic mn
 rw[qB,aa]
theorem Dw (b:Int):kg ((b,()),())=some (mn b,()):=tu b
def good (m:List Page)(i:Int):Bool:=
 ll (pg m i).base&&(mn (pg m i).perm&&(eqI ((pg m i).data.length:Int) 256&&(!decide (0<i)||ltI (pg m (i-1)).base (pg m i).base)))
def lU (m:List Page)(i:Nat):Bool:=(List.range' i (m.length-i)).all fun j=>good m j
theorem rP {m:List Page}{i:Nat}(h:i<m.length):lU m i=(good m i&&lU m (i+1)):=by
 unfold lU
 rw[show m.length-i=(m.length-(i+1))+1 by omega,List.range'_succ]
 rfl
theorem tL {m:List Page}{i:Nat}(h:m.length<=i):lU m i=true:=by
 unfold lU
 rw[show m.length-i=0 by omega];rfl
def pC (m:List Page):Bool:=decide ((m.length:Int)<=32)&&lU m 0
theorem tj (m:List Page)(i:Nat):good m i=(ll (pg m i).base&&(mn (pg m i).perm&&(eqI ((pg m i).data.length:Int) 256&&(!decide (0<(i:Int))||ltI (pg m ((i:Int)-1)).base (pg m i).base)))):=rfl
theorem wG (a b:Int):leI a b= !ltI b a:=by unfold leI ltI;by_cases h:a<=b<;>simp[h]<;>omega
theorem qt (m:List Page)(hm:(m.length:Int)<4611686018427387904):gh (((m,()),()),())=some (pC m,()):=by
 unfold gh pC
 simp only[aV]
 by_cases h32:(32:Int)<m.length
 ·rw[ae (fv h32)];simp[show ¬(m.length:Int)<=32 by omega]
 ·rw[ag (fM h32)]
  refine(eD (fun x=>x.2.1.1=m/\0<=x.1.1/\x.1.1<=(m.length:Int)) (fun x=>m.length-x.1.1.toNat) (fun x=>some (lU m x.1.1.toNat,())) ?_ F _ ?_ ?_).trans ?_
  ·rintro⟨⟨i,_⟩,⟨xs,_⟩,_⟩ rec ⟨rfl,h0,h1⟩ hrec
   dsimp only at h0 h1 hrec hm h32|-
   by_cases hi:i<xs.length
   ·obtain⟨n,rfl⟩:=Int.eq_ofNat_of_zero_le h0
    have hn:n<xs.length:=by omega
    rw[ae (fv hi),ae (cA h0 hi),tt,aa]
    dsimp only
    have hst:rec (((aB IntKind.i64 (n:Int) 1),()),(xs,()),())=some (lU xs (n+1),()):=by
     rw[aH]
     rw[hrec _ ⟨rfl,by dsimp only;omega,by dsimp only;omega⟩ (by dsimp only;omega)]
     rfl
    rw[hst,Int.toNat_natCast,rP hn,tj]
    show _=some ((ll (aR xs (n:Int) (az .page)).base&&_)&&_,())
    cases ll (aR xs (n:Int) (az .page)).base
    ·rfl
    ·rw[kD,Bool.not_true,ak,tu,aa]
     dsimp only
     show _=some ((true&&(mn (aR xs (n:Int) (az .page)).perm&&_))&&_,())
     cases mn (aR xs (n:Int) (az .page)).perm
     ·rfl
     ·rw[kD,Bool.not_true,ak,kD]
      show _=some ((true&&(true&&(eqI ((aR xs (n:Int) (az .page)).data.length:Int) 256&&_)))&&_,())
      cases eqI ((aR xs (n:Int) (az .page)).data.length:Int) 256
      ·rfl
      ·rw[Bool.not_true,ak]
       by_cases hp:0<(n:Int)
       ·rw[ae (fv hp),bn,ae (cA),wG]
        show _=some ((true&&(true&&(true&&(!decide (0<(n:Int))||ltI (aR xs ((n:Int)-1) (az .page)).base (aR xs (n:Int) (az .page)).base))))&&_,())
        rw[show decide (0<(n:Int))=true from decide_eq_true hp]
        cases ltI (aR xs ((n:Int)-1) (az .page)).base (aR xs (n:Int) (az .page)).base
        ·simp[aE]
        ·simp[ak]
       ·rw[ag (fM hp),show decide (0<(n:Int))=false from decide_eq_false hp];simp
   ·rw[ag (fM hi),tL (by omega)]
  ·exact⟨rfl,by simp,by simp⟩
  ·simp[F];omega
  ·simp[show(m.length:Int)<=32 by omega]
theorem mm (m:List Page)(hm:(m.length:Int)<4611686018427387904)(hF:m.length<F):dM (((m,()),()),())=some (pC m,()):=by
 unfold dM pC
 simp only[aV]
 refine(eD (fun x=>x.2.1.1=m/\x.1.1=m/\x.1.2.1=(m.length:Int)/\0<=x.1.2.2.1/\x.1.2.2.1<=(m.length:Int)) (fun x=>m.length-x.1.2.2.1.toNat) (fun x=>some (decide ((m.length:Int)<=32)&&lU m x.1.2.2.1.toNat,())) ?_ F _ ?_ ?_).trans ?_
 ·rintro⟨⟨ys,len,i,_⟩,⟨xs,_⟩,_⟩ rec ⟨rfl,h2,h3,h0,h1⟩ hrec
  dsimp only at h0 h1 h2 h3 hrec hm hF|-
  subst h2
  subst h3
  by_cases hi:i<ys.length
  ·obtain⟨n,rfl⟩:=Int.eq_ofNat_of_zero_le h0
   have hn:n<ys.length:=by omega
   rw[ae (fv hi),ae (cA h0 hi),Dt,aa]
   dsimp only
   have hst:rec ((ys,(ys.length:Int),(aB IntKind.i64 (n:Int) 1),()),(ys,()),())=some (decide ((ys.length:Int)<=32)&&lU ys (n+1),()):=by
    rw[aH]
    rw[hrec _ ⟨rfl,rfl,rfl,by dsimp only;omega,by dsimp only;omega⟩ (by dsimp only;omega)]
    rfl
   rw[hst,Int.toNat_natCast,rP hn,tj]
   show _=some (_&&((ll (aR ys (n:Int) (az .page)).base&&_)&&_),())
   cases ll (aR ys (n:Int) (az .page)).base
   ·simp[kD,aE]
   ·rw[kD,Bool.not_true,ak,Dw,aa]
    dsimp only
    show _=some (_&&((true&&(mn (aR ys (n:Int) (az .page)).perm&&_))&&_),())
    cases mn (aR ys (n:Int) (az .page)).perm
    ·simp[kD,aE]
    ·rw[kD,Bool.not_true,ak,kD]
     show _=some (_&&((true&&(true&&(eqI ((aR ys (n:Int) (az .page)).data.length:Int) 256&&_)))&&_),())
     cases eqI ((aR ys (n:Int) (az .page)).data.length:Int) 256
     ·simp[aE]
     ·rw[Bool.not_true,ak]
      by_cases hp:0<(n:Int)
      ·rw[ae (fv hp),bn,ae (cA),wG]
       show _=some (_&&((true&&(true&&(true&&(!decide (0<(n:Int))||ltI (aR ys ((n:Int)-1) (az .page)).base (aR ys (n:Int) (az .page)).base))))&&_),())
       rw[show decide (0<(n:Int))=true from decide_eq_true hp]
       cases ltI (aR ys ((n:Int)-1) (az .page)).base (aR ys (n:Int) (az .page)).base
       ·simp[aE]
       ·simp[ak]
      ·rw[ag (fM hp),show decide (0<(n:Int))=false from decide_eq_false hp];simp
  ·rw[ag (fM hi),tL (by omega)]
   simp[leI]
 ·exact⟨rfl,rfl,rfl,by simp,by simp⟩
 ·simpa using hF
 ·simp
set_option maxRecDepth 100000
def leN:List UInt8->Nat
 |[]=>0
 |b::r=>b.toNat+256*leN r
theorem Aa:∀(t:List UInt8),leN t<256^t.length
 |[]=>by simp[leN]
 |b::r=>by
  have:=Aa r
  have hb:b.toNat<256:=b.toNat_lt
  simp only[leN,List.length_cons,Nat.pow_succ]
  omega
theorem uP:∀(t:List UInt8) (k:Nat) (h:k<t.length),leN (t.take (k+1))=leN (t.take k)+t[k].toNat*256^k
 |[],k,h=>by simp at h
 |b::r,0,_=>by simp[leN]
 |b::r,k+1,h=>by
  have hk:k<r.length:=by simpa using h
  have:=uP r k hk
  simp only[List.take_succ_cons,leN,List.getElem_cons_succ,Nat.pow_succ]at this|-
  rw[this,Nat.mul_add]
  have:256*(r[k].toNat*256^k)=r[k].toNat*(256^k*256):=by rw[Nat.mul_left_comm,Nat.mul_comm 256 (256^k)]
  omega
theorem z7 (t:List UInt8)(k:Nat)(h:k<t.length):leN (t.drop k)=t[k].toNat+256*leN (t.drop (k+1)):=by
 rw[List.drop_eq_getElem_cons h,leN]
theorem m8 {t:List UInt8}{k:Nat}(h:k<t.length):eH t (k:Int)=(t[k].toNat:Int):=by simp[eH,h]
theorem EZ {n:Int}(h0:0<=n)(h:n<18446744073709551616):IntKind.wrap .u64 n=n:=by
 simp only[IntKind.wrap,IntKind.bits,IntKind.signed,Bool.false_and]
 simp only[show(2:Int)^64=18446744073709551616 from rfl]
 simp only[Bool.false_eq_true,if_false]
 exact Int.emod_eq_of_lt h0 h
theorem Bg (t:List UInt8)(h8:t.length<=8):di ((t,0,(t.length:Int),()),())=some (IntKind.wrap .i64 (leN t),()):=by
 unfold di
 simp only[aV]
 rw[bn]
 refine(eD (fun x=>x.1.1=t/\x.1.2.1=0/\ -1<=x.1.2.2.2.1/\x.1.2.2.2.1<(t.length:Int)/\x.1.2.2.1=(leN (t.drop (x.1.2.2.2.1+1).toNat):Int)) (fun x=>(x.1.2.2.2.1+1).toNat) (fun _=>some (IntKind.wrap .i64 (leN t),())) ?_ F _ ?_ ?_)
 ·rintro⟨⟨s,z,v,i,_⟩,_⟩ rec ⟨rfl,hz,h0,h1,h2⟩ hrec
  dsimp only at hz h0 h1 h2 hrec h8|-
  subst hz
  by_cases hi:0<=i
  ·obtain⟨n,rfl⟩:=Int.eq_ofNat_of_zero_le hi
   have hn:n<s.length:=by omega
   have hlt:=Aa (s.drop (n+1))
   have hb:s[n].toNat<256:=s[n].toNat_lt
   have hpow:256^(s.drop (n+1)).length<=256^7:=Nat.pow_le_pow_right (by decide) (by rw[List.length_drop];omega)
   rw[show(256:Nat)^7=72057594037927936 from rfl]at hpow
   rw[show((n:Int)+1).toNat=n+1 by omega]at h2
   rw[ae (fu hi),aH,show(0:Int)+n=n by omega,ae (cA hi (by omega)),m8 hn]
   rw[hrec _ ⟨rfl,rfl,?_,?_,?_⟩ ?_]
   ·dsimp only;rw[bn];omega
   ·dsimp only;rw[bn];omega
   ·dsimp only
    rw[bn,show((n:Int)-1+1).toNat=n by omega,z7 s n hn,h2]
    unfold aB bK aj
    rw[EZ (n:=256*(leN (s.drop (n+1)):Int)) (by omega) (by omega),EZ (n:=(s[n].toNat:Int)) (by omega) (by omega),EZ (by omega) (by omega)]
    omega
   ·dsimp only;rw[bn];omega
  ·obtain rfl:i= -1:=by omega
   rw[ag (j9 hi),h2]
   rfl
 ·refine⟨rfl,rfl,by dsimp only;omega,by dsimp only;omega,?_⟩
  dsimp only
  rw[show((t.length:Int)-1+1).toNat=t.length by omega,List.drop_length]
  rfl
 ·simp[F];omega
theorem Bu (x:Int):BitVec.ofInt 64 (IntKind.wrap .i64 x)=BitVec.ofInt 64 x:=by
 apply BitVec.eq_of_toNat_eq
 simp only[BitVec.toNat_ofInt,IntKind.wrap,IntKind.bits,IntKind.signed,Bool.true_and,decide_eq_true_eq,ge_iff_le]
 simp only[show(2:Int)^64=18446744073709551616 from rfl,show(2:Int)^(64-1)=9223372036854775808 from rfl,show((2^64:Nat):Int)=18446744073709551616 from rfl]
 split<;>omega
theorem Gd (a c k:Nat)(ha:a<2^k)(hc:a+c*2^k<18446744073709551616):ior .i64 (a:Int) (IntKind.wrap .i64 ((c:Int)*2^k))=IntKind.wrap .i64 ((a+c*2^k:Nat):Int):=by
 unfold ior
 rw[show IntKind.i64.bits=64 from rfl,Bu]
 congr 1
 rw[BitVec.toNat_or]
 have e1:(BitVec.ofInt 64 (a:Int)).toNat=a:=by
  rw[BitVec.toNat_ofInt];simp only[show((2^64:Nat):Int)=18446744073709551616 from rfl];omega
 have e2:(BitVec.ofInt 64 ((c:Int)*2^k)).toNat=c*2^k:=by
  rw[BitVec.toNat_ofInt];simp only[show((2^64:Nat):Int)=18446744073709551616 from rfl]
  rw[show((c:Int)*2^k)=((c*2^k:Nat):Int)by simp]
  omega
 rw[e1,e2,Nat.or_comm,<-Nat.shiftLeft_eq,<-Nat.shiftLeft_add_eq_or_of_lt ha,Nat.shiftLeft_eq,Nat.add_comm]
theorem EX (t:List UInt8)(h8:t.length<=8):fY ((t,()),())=some (IntKind.wrap .i64 (leN t),()):=by
 unfold fY
 simp only[aV]
 refine(eD (fun x=>x.1.1=t/\x.1.2.2.1=(t.length:Int)/\0<=x.1.2.2.2.1/\x.1.2.2.2.1<=(t.length:Int)/\x.1.2.1=IntKind.wrap .i64 (leN (t.take x.1.2.2.2.1.toNat))) (fun x=>t.length-x.1.2.2.2.1.toNat) (fun _=>some (IntKind.wrap .i64 (leN t),())) ?_ F _ ?_ ?_)
 ·rintro⟨⟨s,acc,len,i,_⟩,_⟩ rec ⟨rfl,hz,h0,h1,h2⟩ hrec
  dsimp only at hz h0 h1 h2 hrec h8|-
  subst hz
  by_cases hi:i<s.length
  ·obtain⟨n,rfl⟩:=Int.eq_ofNat_of_zero_le h0
   have hn:n<s.length:=by omega
   have hlt:=Aa (s.take n)
   rw[List.length_take,Nat.min_eq_left (by omega)]at hlt
   have hb:s[n].toNat<256:=s[n].toNat_lt
   have hpow:256^n<=256^7:=Nat.pow_le_pow_right (by decide) (by omega)
   rw[show(256:Nat)^7=72057594037927936 from rfl]at hpow
   have h256:(256:Nat)^n=2^(8*n):=by rw[Nat.pow_mul]
   rw[Int.toNat_natCast]at h2
   rw[ae (fv hi),ae (cA h0 hi),cX,ae (fu),m8 hn,AH (by unfold I64;omega)]
   rw[hrec _ ⟨rfl,rfl,?_,?_,?_⟩ ?_]
   ·dsimp only;rw[aH];omega
   ·dsimp only;rw[aH];omega
   ·dsimp only
    rw[aH,show((n:Int)+1).toNat=n+1 by omega,uP s n hn,h2,dC (n:=(leN (s.take n):Int)) (by unfold I64;omega)]
    unfold dD
    rw[show min (8*(n:Int)).toNat IntKind.i64.bits=8*n by rw[show IntKind.i64.bits=64 from rfl];omega]
    have hmul:s[n].toNat*256^n<=255*256^n:=Nat.mul_le_mul_right _ (by omega)
    have:=Gd (leN (s.take n)) s[n].toNat (8*n) (by rw[<-h256];exact hlt) (by rw[<-h256];omega)
    rw[this,h256]
   ·dsimp only;rw[aH];omega
  ·obtain rfl:i=s.length:=by omega
   rw[ag (fM hi),h2,Int.toNat_natCast,List.take_length]
 ·refine⟨rfl,rfl,by dsimp only;omega,by dsimp only;omega,?_⟩
  rfl
 ·simp[F];omega
structure MemR (m:List Page):Prop where
 len:m.length<=32
 pg:∀x∈m,0<=x.base/\x.base<=65280/\x.base%256=0/\x.data.length=256
theorem tn {b:Int}(h:ll b=true):0<=b/\b<=65280/\b%256=0:=by
 simp only[ll,inB,Bool.and_eq_true,decide_eq_true_eq,eqI]at h
 obtain⟨⟨h0,h1⟩,h2⟩:=h
 have h2:b.tmod 256=0:=h2
 rw[Int.tmod_eq_emod_of_nonneg h0]at h2
 omega
theorem DS {m:List Page}(h:pC m=true):MemR m:=by
 simp only[pC,Bool.and_eq_true,decide_eq_true_eq,lU,List.all_eq_true]at h
 refine⟨by omega,fun x hx=>?_⟩
 obtain⟨i,hi,rfl⟩:=List.getElem_of_mem hx
 have:=h.2 i (by rw[List.mem_range'];exact⟨i,by omega,by omega⟩)
 unfold good pg at this
 rw[fp hi]at this
 simp only[Bool.and_eq_true,eqI,decide_eq_true_eq]at this
 obtain⟨h1,_,h3,_⟩:=this
 obtain⟨a,b,c⟩:=tn h1
 exact⟨a,b,c,by omega⟩
def du (p:Page->Bool):List Page->Nat->Int
 |[],_=> -1
 |x::r,i=>if p x=true then(i:Int)else du p r (i+1)
theorem ky (p:Page->Bool):∀(m:List Page) (i:Nat),(du p m i= -1/\∀x∈m,p x=false)\/∃j,∃h:j<m.length,du p m i=((i+j:Nat):Int)/\p m[j]=true
 |[],_=> .inl ⟨rfl,by simp⟩
 |x::r,i=>by
  simp only[du]
  cases hx:p x with
  |true=>exact .inr ⟨0,by simp,by simp,by simpa using hx⟩
  |false=>
   rcases ky p r (i+1)with ⟨h1,h2⟩|⟨j,h,h1,h2⟩
   ·refine .inl ⟨by simpa using h1,fun y hy=>?_⟩
    rcases List.mem_cons.1 hy with rfl|hy
    ·exact hx
    ·exact h2 y hy
   ·refine .inr ⟨j+1,by simp;omega,?_,by simpa using h2⟩
    rw[if_neg (by simp),h1]
    congr 1;omega
theorem ux {p:Page->Bool}{m:List Page}{i:Nat}(h:∀x∈m,p x=false):du p m i= -1:=by
 rcases ky p m i with h1|⟨j,hj,_,h2⟩
 ·exact h1.1
 ·rw[h _ (List.getElem_mem hj)]at h2;cases h2
def j8 (a:Int)(x:Page):Bool:=decide (x.base<=a)&&decide (a-x.base<256)
def fnd (m:List Page)(a:Int):Int:=du (j8 a) m 0
theorem lR (m:List Page)(hm:MemR m)(a:Int)(ha:I64 a):cy (((m,()),a,()),())=some (fnd m a,()):=by
 unfold cy
 simp only[aV]
 refine(eD (fun x=>x.2.1.1=m/\x.1.1=a/\0<=x.1.2.1/\x.1.2.1<=(m.length:Int)) (fun x=>m.length-x.1.2.1.toNat) (fun x=>some (du (j8 a) (m.drop x.1.2.1.toNat) x.1.2.1.toNat,())) ?_ F _ ?_ ?_).trans ?_
 ·rintro⟨⟨b,i,_⟩,⟨xs,_⟩,_⟩ rec ⟨h2,h3,h0,h1⟩ hrec
  dsimp only at h0 h1 h2 h3 hrec|-
  subst h2
  subst h3
  have hlen:=hm.len
  by_cases hi:i<xs.length
  ·obtain⟨n,rfl⟩:=Int.eq_ofNat_of_zero_le h0
   have hn:n<xs.length:=by omega
   rw[ae (fv hi),ae (cA h0 hi),fp hn,Int.toNat_natCast,List.drop_eq_getElem_cons hn,du]
   obtain⟨p0,p1,_,_⟩:=hm.pg _ (List.getElem_mem hn)
   have hst:rec ((b,aB IntKind.i64 (n:Int) 1,()),(xs,()),())=some (du (j8 b) (xs.drop (n+1)) (n+1),()):=by
    rw[aH]
    rw[hrec _ ⟨rfl,rfl,by dsimp only;omega,by dsimp only;omega⟩ (by dsimp only;omega)]
    rfl
   rw[hst]
   unfold I64 at ha
   by_cases hb:xs[n].base<=b
   ·rw[ae (fu hb),ae (cA h0 hi),aa,bn]
    by_cases hc:b-xs[n].base<256
    ·rw[ae (fv hc),if_pos (by simp[j8,hb,hc])]
    ·rw[ag (fM hc),if_neg (by simp[j8,hc])]
   ·rw[ag (j9 hb),aa,ak,if_neg (by simp[j8,hb])]
  ·rw[ag (fM hi),List.drop_eq_nil_of_le (by omega)];rfl
 ·exact⟨rfl,rfl,by simp,by simp⟩
 ·have:=hm.len;simp[F];omega
 ·rfl
theorem wt (m:List Page)(hm:MemR m)(a:Int)(h0:0<=a)(h1:a<=65535):aS ((m,()),(a,()),())=some (fnd m a,(a,()),()):=by
 unfold aS dV
 simp only[aV]
 refine(eD (fun x=>x.1.1=m/\x.1.2.1=(m.length:Int)/\x.2.1.1=a/\0<=x.1.2.2.1/\x.1.2.2.1<=(m.length:Int)) (fun x=>m.length-x.1.2.2.1.toNat) (fun x=>some (du (j8 a) (m.drop x.1.2.2.1.toNat) x.1.2.2.1.toNat,(a,()),())) ?_ F _ ?_ ?_).trans ?_
 ·rintro⟨⟨xs,len,i,_⟩,⟨b,_⟩,_⟩ rec ⟨h2,h3,h4,h5,h6⟩ hrec
  dsimp only at h5 h6 h2 h3 h4 hrec|-
  subst h2
  subst h3
  subst h4
  have hlen:=hm.len
  by_cases hi:i<xs.length
  ·obtain⟨n,rfl⟩:=Int.eq_ofNat_of_zero_le h5
   have hn:n<xs.length:=by omega
   rw[ae (fv hi),ae (cA h5 hi),aa,fp hn,Int.toNat_natCast,List.drop_eq_getElem_cons hn,du]
   dsimp only
   obtain⟨p0,p1,p2,_⟩:=hm.pg _ (List.getElem_mem hn)
   have hst:rec ((xs,(xs.length:Int),aB IntKind.i64 (n:Int) 1,()),(b,()),())=some (du (j8 b) (xs.drop (n+1)) (n+1),(b,()),()):=by
    rw[aH]
    rw[hrec _ ⟨rfl,rfl,rfl,by dsimp only;omega,by dsimp only;omega⟩ (by dsimp only;omega)]
    rfl
   rw[hst,show fw b 256=b%256 from Int.tmod_eq_emod_of_nonneg h0,bn]
   by_cases hc:xs[n].base=b-b%256
   ·rw[ae (be hc),if_pos (by simp only[j8,Bool.and_eq_true,decide_eq_true_eq];omega)]
   ·rw[ag (aq hc),if_neg (by simp only[j8,Bool.and_eq_true,decide_eq_true_eq];omega)]
  ·rw[ag (fM hi),List.drop_eq_nil_of_le (by omega)];rfl
 ·exact⟨rfl,rfl,rfl,by simp,by simp⟩
 ·have:=hm.len;simp[F];omega
 ·rfl
theorem uB {m:List Page}(hm:MemR m){a:Int}(h:¬(0<=a/\a<=65535)):fnd m a= -1:=by
 refine ux fun x hx=>?_
 obtain⟨p0,p1,p2,_⟩:=hm.pg x hx
 simp only[j8,Bool.and_eq_false_iff,decide_eq_false_iff_not]
 omega
theorem iy (m:List Page)(hm:MemR m)(a:Int):ba (((m,()),a,()),())=some (fnd m a,()):=by
 unfold ba
 rw[mY,aa]
 dsimp only
 by_cases h:0<=a/\a<=65535
 ·rw[ag (by simp[aQ,inB,h.1,h.2]),wt m hm a h.1 h.2,aa]
 ·rw[ae (by simp only[aQ,inB,Bool.not_eq_true',Bool.and_eq_false_iff,decide_eq_false_iff_not];omega),uB hm h]
theorem nf {m:List Page}(hm:MemR m)(a:Int):fnd m a= -1\/∃j,∃h:j<m.length,fnd m a=(j:Int)/\m[j].base<=a/\a-m[j].base<256/\0<=a/\a<=65535/\a-m[j].base=a%256/\m[j].data.length=256:=by
 rcases ky (j8 a) m 0 with ⟨h,_⟩|⟨j,hj,h1,h2⟩
 ·exact .inl h
 ·obtain⟨p0,p1,p2,p3⟩:=hm.pg _ (List.getElem_mem hj)
  simp only[j8,Bool.and_eq_true,decide_eq_true_eq]at h2
  exact .inr ⟨j,hj,by rw[Nat.zero_add]at h1;exact h1,h2.1,h2.2,by omega,by omega,by omega,p3⟩
def dg (m:List Page)(a perm:Int):Nat->Int->Int
 |0,_=>0
 |j+1,k=>if fnd m (a+k)<0 then 13 else if cz .i64 (aR m (fnd m (a+k)) (az .page)).perm perm=0 then 14 else dg m a perm j (k+1)
theorem ta {m:List Page}(hm:MemR m){a perm:Int}(h:¬(0<=a/\a<=65535))(j:Nat):dg m a perm (j+1) 0=13:=by
 rw[dg,Int.add_zero,uB hm h];rfl
theorem rc {m:List Page}(hm:MemR m){a:Int}(h:¬fnd m a<0):inR (fnd m a) (m.length:Int)=true:=by
 rcases nf hm a with h1|⟨j,hj,h1,_⟩
 ·rw[h1]at h;exact absurd (by decide) h
 ·rw[h1];exact cA
theorem nP (m:List Page)(hm:MemR m)(a perm:Int)(n:Nat)(hn8:n<=8192)(ha:I64 a):bB (((m,()),a,(n:Int),perm,()),())=some (dg m a perm n 0,()):=by
 unfold bB
 simp only[aV]
 refine(eD (fun x=>x.2.1.1=m/\x.1.1=a/\x.1.2.1=(n:Int)/\x.1.2.2.1=perm/\0<=x.1.2.2.2.1/\x.1.2.2.2.1<=(n:Int)/\(x.1.2.2.2.1=0\/(0<=a/\a<=65535))) (fun x=>n-x.1.2.2.2.1.toNat) (fun x=>some (dg m a perm (n-x.1.2.2.2.1.toNat) x.1.2.2.2.1,())) ?_ F _ ?_ ?_).trans ?_
 ·rintro⟨⟨b,l,p,i,_⟩,⟨xs,_⟩,_⟩ rec ⟨h2,h3,h4,h5,h0,h1,h6⟩ hrec
  dsimp only at h0 h1 h2 h3 h4 h5 h6 hrec|-
  subst h2 h3 h4 h5
  by_cases hi:i<(n:Int)
  ·obtain⟨k,rfl⟩:=Int.eq_ofNat_of_zero_le h0
   rw[ae (fv hi),bn,qB,aa]
   dsimp only
   have hst:n-((k:Int)).toNat=(n-(k+1))+1:=by omega
   rw[hst]
   by_cases hr:0<=b/\b<=65535
   ·rw[ag (by simp[aQ,inB];omega),aH,lR xs hm _ (by unfold I64;omega),aa,dg]
    dsimp only
    by_cases hf:fnd xs (b+k)<0
    ·rw[ae (fv hf),if_pos hf]
    ·rw[ag (fM hf),if_neg hf,ae (rc hm hf)]
     by_cases hp:cz .i64 (aR xs (fnd xs (b+k)) (az .page)).perm p=0
     ·rw[ae (be hp),if_pos hp]
     ·rw[ag (aq hp),if_neg hp,aH]
      rw[hrec _ ⟨rfl,rfl,rfl,rfl,by dsimp only;omega,by dsimp only;omega,.inr hr⟩ (by dsimp only;omega)]
      dsimp only
      rw[show n-((k:Int)+1).toNat=n-(k+1)by omega]
   ·have hk:k=0:=by omega
    subst hk
    rw[show((0:Nat):Int)=0 from rfl,ta hm hr]
    by_cases hin:inB b (0-(n:Int)) 65535=true
    ·rw[ag (by rw[hin];rfl),vN (by unfold I64 at *;omega),lR xs hm _ (by rw[Int.add_zero];exact ha),aa,Int.add_zero,uB hm hr]
     rfl
    ·rw[ae (by rw[Bool.not_eq_true]at hin;rw[hin];rfl)]
  ·have:i=n:=by omega
   subst this
   rw[ag (fM hi),Int.toNat_natCast,Nat.sub_self];rfl
 ·exact⟨rfl,rfl,rfl,rfl,by simp,by simp,.inl rfl⟩
 ·simp[F];omega
 ·rfl
theorem kF (m:List Page)(hm:MemR m)(a perm:Int)(n:Nat)(_hn:1<=n)(hn8:n<=8192)(ha:I64 a):bB (((m,()),a,(n:Int),perm,()),())=some (dg m a perm n 0,()):=nP m hm a perm n hn8 ha
theorem kz (m:List Page)(hm:MemR m)(a perm:Int)(n:Nat)(hn8:n<=8192)(ha:I64 a)(hp0:perm≠0)(hn:1<=n):bu (((m,()),a,(n:Int),perm,()),())=some (dg m a perm n 0,()):=by
 unfold bu
 simp only[aV]
 refine(eD (fun x=>x.2.1.1=m/\x.1.1=a/\x.1.2.2.1=(n:Int)/\x.1.2.1=perm/\0<=x.1.2.2.2.1/\x.1.2.2.2.1<=(n:Int)/\(x.1.2.2.2.1=0\/(0<=a/\a<=65535))) (fun x=>n-x.1.2.2.2.1.toNat) (fun x=>some (dg m a perm (n-x.1.2.2.2.1.toNat) x.1.2.2.2.1,())) ?_ F _ ?_ ?_).trans ?_
 ·rintro⟨⟨b,p,l,i,_⟩,⟨xs,_⟩,_⟩ rec ⟨h2,h3,h4,h5,h0,h1,h6⟩ hrec
  dsimp only at h0 h1 h2 h3 h4 h5 h6 hrec|-
  subst h2 h3 h4 h5
  by_cases hi:i<(n:Int)
  ·obtain⟨k,rfl⟩:=Int.eq_ofNat_of_zero_le h0
   rw[ae (fv hi),iy xs hm,aa]
   dsimp only
   have hst:n-((k:Int)).toNat=(n-(k+1))+1:=by omega
   rw[hst]
   by_cases hr:0<=b/\b<=65535
   ·rw[aH,dg]
    by_cases hf:fnd xs (b+k)<0
    ·rw[ae (fv hf),if_pos hf]
    ·rw[ag (fM hf),if_neg hf,ae (rc hm hf),ae (by rw[aq hp0];rfl),aa]
     by_cases hp:cz .i64 (aR xs (fnd xs (b+k)) (az .page)).perm p=0
     ·rw[ae (be hp),if_pos hp]
     ·rw[ag (aq hp),if_neg hp,aH]
      rw[hrec _ ⟨rfl,rfl,rfl,rfl,by dsimp only;omega,by dsimp only;omega,.inr hr⟩ (by dsimp only;omega)]
      dsimp only
      rw[show n-((k:Int)+1).toNat=n-(k+1)by omega]
   ·have hk:k=0:=by omega
    subst hk
    rw[show((0:Nat):Int)=0 from rfl,ta hm hr,vN (by unfold I64 at *;omega),Int.add_zero,uB hm hr]
    rfl
  ·have:i=n:=by omega
   subst this
   rw[ag (fM hi),Int.toNat_natCast,Nat.sub_self];rfl
 ·exact⟨rfl,rfl,rfl,rfl,by simp,by simp,.inl rfl⟩
 ·simp[F];omega
 ·rfl
theorem lN {m:List Page}(hm:MemR m){a perm:Int}:∀(j k0:Nat),dg m a perm j k0=0->∀k,k0<=k->k<k0+j->¬fnd m (a+(k:Nat))<0
 |0,k0,_,k,h1,h2=>by omega
 |j+1,k0,h,k,h1,h2=>by
  rw[dg]at h
  split at h
  ·cases h
  ·rename_i hf
   split at h
   ·cases h
   ·by_cases hk:k=k0
    ·subst hk;exact hf
    ·exact lN hm j (k0+1) (by exact_mod_cast h) k (by omega) (by omega)
def oz (m:List Page)(a:Int):Int:=eH (aR m (fnd m a) (az .page)).data (a%256)
theorem Df (m:List Page)(hm:MemR m)(a:Int)(n:Nat)(hn8:n<=8192)(ha:I64 a)(hok:∀k,k<n->¬fnd m (a+(k:Nat))<0):dj (((m,()),a,(n:Int),()),())=some (j5 ((List.range n).map fun k=>oz m (a+(k:Nat))),()):=by
 unfold dj
 simp only[aV]
 refine(eD (fun x=>x.2.1.1=m/\x.1.1=a/\x.1.2.1=(n:Int)/\0<=x.1.2.2.1/\x.1.2.2.1<=(n:Int)/\x.2.2.1=(List.range x.1.2.2.1.toNat).map fun k=>oz m (a+(k:Nat))) (fun x=>n-x.1.2.2.1.toNat) (fun _=>some (j5 ((List.range n).map fun k=>oz m (a+(k:Nat))),())) ?_ F _ ?_ ?_)
 ·rintro⟨⟨b,l,i,_⟩,⟨xs,_⟩,out,_⟩ rec ⟨h2,h3,h4,h0,h1,h5⟩ hrec
  dsimp only at h0 h1 h2 h3 h4 h5 hrec|-
  subst h2 h3 h4
  by_cases hi:i<(n:Int)
  ·obtain⟨k,rfl⟩:=Int.eq_ofNat_of_zero_le h0
   rw[Int.toNat_natCast]at h5
   have hk:=hok k (by omega)
   rcases nf hm (b+k)with h7|⟨j,hj,h7,h8,h9,h10,h11,h12,h13⟩
   ·rw[h7]at hk;exact absurd (by decide) hk
   ·have hb:I64 (b+k):=by unfold I64;omega
    rw[ae (fv hi),vN hb,lR xs hm _ hb,aa]
    dsimp only
    rw[ae (rc hm hk),h7,fp hj,bn,ae (cA),h12]
    have hbyte:eH xs[j].data ((b+(k:Int))%256)=oz xs (b+k):=by rw[oz,h7,fp hj]
    rw[hbyte,ae (by rw[h5];simp[fL,lim];omega),aH]
    refine hrec _ ⟨rfl,rfl,rfl,by dsimp only;omega,by dsimp only;omega,?_⟩ (by dsimp only;omega)
    dsimp only
    rw[show((k:Int)+1).toNat=k+1 by omega,List.range_succ,List.map_append,h5]
    rfl
  ·have:i=n:=by omega
   subst this
   rw[ag (fM hi),h5,Int.toNat_natCast]
 ·exact⟨rfl,rfl,rfl,by simp,by simp,rfl⟩
 ·simp[F];omega
theorem uf (m:List Page)(hm:MemR m)(a:Int)(n:Nat)(hn8:n<=8192)(ha:I64 a)(hok:∀k,k<n->¬fnd m (a+(k:Nat))<0):bH (((m,()),a,(n:Int),()),())=some (j5 ((List.range n).map fun k=>oz m (a+(k:Nat))),()):=by
 unfold bH
 simp only[aV]
 rw[ae (mC (by omega) (Int.le_refl _)),ae (yy (by omega))]
 refine(eD (fun x=>x.2.1.1=m/\x.1.1=a/\x.1.2.1=(n:Int)/\0<=x.1.2.2.1/\x.1.2.2.1<=(n:Int)/\x.2.2.1=((List.range x.1.2.2.1.toNat).map fun k=>oz m (a+(k:Nat)))++List.replicate (n-x.1.2.2.1.toNat) 0) (fun x=>n-x.1.2.2.1.toNat) (fun _=>some (j5 ((List.range n).map fun k=>oz m (a+(k:Nat))),())) ?_ F _ ?_ ?_)
 ·rintro⟨⟨b,l,i,_⟩,⟨xs,_⟩,out,_⟩ rec ⟨h2,h3,h4,h0,h1,h5⟩ hrec
  dsimp only at h0 h1 h2 h3 h4 h5 hrec|-
  subst h2 h3 h4
  by_cases hi:i<(n:Int)
  ·obtain⟨k,rfl⟩:=Int.eq_ofNat_of_zero_le h0
   rw[Int.toNat_natCast]at h5
   have hk:=hok k (by omega)
   rcases nf hm (b+k)with h7|⟨j,hj,h7,h8,h9,h10,h11,h12,h13⟩
   ·rw[h7]at hk;exact absurd (by decide) hk
   ·have hb:I64 (b+k):=by unfold I64;omega
    have hol:out.length=n:=by rw[h5];simp;omega
    rw[ae (fv hi),vN hb,iy xs hm,aa]
    dsimp only
    rw[ae (rc hm hk),show fw (b+(k:Int)) 256=(b+k)%256 from Int.tmod_eq_emod_of_nonneg h10,h7,fp hj,ae (cA)]
    have hbyte:eH xs[j].data ((b+(k:Int))%256)=oz xs (b+k):=by rw[oz,h7,fp hj]
    rw[hbyte,ae (cA h0 (by omega)),aH]
    refine hrec _ ⟨rfl,rfl,rfl,by dsimp only;omega,by dsimp only;omega,?_⟩ (by dsimp only;omega)
    dsimp only
    rw[show((k:Int)+1).toNat=k+1 by omega,List.range_succ,List.map_append,h5]
    unfold cF
    rw[Int.toNat_natCast,List.set_append_right _ _ (by simp),List.length_map,List.length_range,Nat.sub_self,show n-k=(n-(k+1))+1 by omega,List.replicate_succ]
    simp
  ·have:i=n:=by omega
   subst this
   rw[ag (fM hi),h5,Int.toNat_natCast,Nat.sub_self]
   simp
 ·refine⟨rfl,rfl,by simp[sM],by simp,by simp,?_⟩
  simp[sM,az]
 ·simp[F];omega
def cl (n:Int):Bool:=eqI n 1||(eqI n 2||(eqI n 4||eqI n 8))
theorem Gj {n:Int}(h:cl n=true):∃k:Nat,n=(k:Int)/\1<=k/\k<=8:=by
 simp only[cl,eqI,Bool.or_eq_true,decide_eq_true_eq]at h
 exact⟨n.toNat,by omega,by omega,by omega⟩
theorem oZ (xs:List Int):(j5 xs).length=xs.length:=by simp[j5]
def k6 (m:List Page)(a:Int)(n:Nat):Int×Int:=
 if dg m a 1 n 0=0 then(IntKind.wrap .i64 (leN (j5 ((List.range n).map fun k=>oz m (a+(k:Nat))))),0)else(0,dg m a 1 n 0)
theorem DK {m:List Page}(hm:MemR m){a:Int}{n:Nat}(h:dg m a 1 n 0=0):∀k,k<n->¬fnd m (a+(k:Nat))<0:=fun k hk=>
 lN hm n 0 h k (Nat.zero_le _) (by omega)
theorem qf (m:List Page)(hm:MemR m)(a:Int)(n:Nat)(hn:1<=n)(hn8:n<=8)(ha:I64 a):dH (((m,()),a,(n:Int),()),())=some (((k6 m a n).1,(k6 m a n).2,()),()):=by
 unfold dH k6
 dsimp only
 rw[kF m hm a 1 n hn (by omega) ha,aa]
 by_cases h:dg m a 1 n 0=0
 ·rw[ag (by rw[h];rfl),Df m hm a n (by omega) ha (DK hm h),aa,if_pos h]
  dsimp only
  have hl:(j5 ((List.range n).map fun k=>oz m (a+(k:Nat)))).length=n:=by rw[oZ];simp
  have:=Bg (j5 ((List.range n).map fun k=>oz m (a+(k:Nat)))) (by omega)
  rw[hl]at this
  rw[this,aa]
 ·rw[ae (by rw[aq h];rfl),if_neg h]
theorem pU (m:List Page)(hm:MemR m)(a:Int)(n:Nat)(hn:1<=n)(hn8:n<=8)(ha:I64 a):co (((m,()),a,(n:Int),()),())=some (((k6 m a n).1,(k6 m a n).2,()),()):=by
 unfold co k6
 dsimp only
 rw[kz m hm a 1 n (by omega) ha (by decide) hn,aa]
 by_cases h:dg m a 1 n 0=0
 ·rw[ag (by rw[h];rfl),uf m hm a n (by omega) ha (DK hm h),aa,if_pos h]
  dsimp only
  rw[EX _ (by rw[oZ];simpa using hn8),aa]
 ·rw[ae (by rw[aq h];rfl),if_neg h]
theorem CT {x:Page}(h:yi .page x):I64 x.base/\I64 x.perm/\x.data.length<=maxLen:=by
 obtain⟨⟨n,e1,w1⟩,⟨k,e2,w2⟩,⟨s,e3,w3⟩,_⟩:=h
 cases e1;cases e2;cases e3
 exact⟨wf64 w1,wf64 w2,w3⟩
def pgN (m:List Page)(i:Nat):Page:=m.getD i (az .page)
theorem Aq (m:List Page)(i:Nat):pg m (i:Int)=pgN m i:=by simp[pg,pgN,aR]
theorem rV {m:List Page}{i:Nat}(h:i<m.length):pgN m i=m[i]:=by simp[pgN,h]
structure MemT (m:List Page):Prop where
 len:m.length<=32
 pg:∀i,i<m.length->0<=(pgN m i).base/\(pgN m i).base<=65280/\(pgN m i).base%256=0/\0<=(pgN m i).perm/\(pgN m i).perm<=7/\(pgN m i).data.length=256
 ord:∀i,i+1<m.length->(pgN m i).base<(pgN m (i+1)).base
theorem Gf {b:Int}(h0:0<=b)(h1:b<=65280)(h2:b%256=0):ll b=true:=by
 simp only[ll,inB,Bool.and_eq_true,decide_eq_true_eq,eqI]
 refine⟨⟨h0,by omega⟩,?_⟩
 show b.tmod 256=0
 rw[Int.tmod_eq_emod_of_nonneg h0];exact h2
theorem DT {m:List Page}(h:pC m=true):MemT m:=by
 have hr:=DS h
 simp only[pC,Bool.and_eq_true,decide_eq_true_eq,lU,List.all_eq_true]at h
 have hg:∀i,i<m.length->ll (pgN m i).base=true/\mn (pgN m i).perm=true/\eqI ((pgN m i).data.length:Int) 256=true/\((0<i)->(Go.Den.G.pg m ((i:Int)-1)).base<(pgN m i).base):=by
  intro i hi
  have:=h.2 i (by rw[List.mem_range'];exact⟨i,by omega,by omega⟩)
  unfold good at this
  rw[Aq]at this
  simp only[Bool.and_eq_true,Bool.or_eq_true,Bool.not_eq_true',decide_eq_false_iff_not,DQ]at this
  obtain⟨h1,h2,h3,h4⟩:=this
  refine⟨h1,h2,h3,fun hp=>?_⟩
  rcases h4 with h4|h4
  ·omega
  ·exact h4
 refine⟨by omega,fun i hi=>?_,fun i hi=>?_⟩
 ·obtain⟨h1,h2,h3,_⟩:=hg i hi
  obtain⟨a,b,c⟩:=tn h1
  simp only[mn,inB,Bool.and_eq_true,decide_eq_true_eq]at h2
  rw[nH]at h3
  exact⟨a,b,c,h2.1,h2.2,by omega⟩
 ·have:=(hg (i+1) hi).2.2.2 (by omega)
  rw[show((i+1:Nat):Int)-1=(i:Int)by omega,Aq]at this
  exact this
theorem MemT.ok {m:List Page}(h:MemT m):pC m=true:=by
 simp only[pC,Bool.and_eq_true,decide_eq_true_eq,lU,List.all_eq_true]
 refine⟨by have:=h.len;omega,fun i hi=>?_⟩
 rw[List.mem_range']at hi
 obtain⟨k,hk,rfl⟩:=hi
 rw[Nat.one_mul,Nat.zero_add]
 have hk:k<m.length:=by omega
 obtain⟨a,b,c,d,e,f⟩:=h.pg k hk
 unfold good
 rw[Aq]
 simp only[Bool.and_eq_true,Bool.or_eq_true,Bool.not_eq_true',decide_eq_false_iff_not,DQ]
 refine⟨Gf a b c,?_,by rw[nH];omega,?_⟩
 ·simp only[mn,inB,Bool.and_eq_true,decide_eq_true_eq];omega
 ·cases k with
  |zero=>exact .inl (by omega)
  |succ n=>right;rw[show((n+1:Nat):Int)-1=(n:Int)by omega,Aq];exact h.ord n hk
theorem MemT.mono {m:List Page}(h:MemT m){i:Nat}:∀ {j:Nat},i<j->j<m.length->(pgN m i).base+256<=(pgN m j).base
 |0,hj,_=>absurd hj (Nat.not_lt_zero _)
 |j+1,hij,hj=>by
  have h1:=h.ord j hj
  have p1:=(h.pg j (by omega)).2.2.1
  have p2:=(h.pg (j+1) hj).2.2.1
  by_cases he:i=j
  ·subst he;omega
  ·have:=h.mono (i:=i) (j:=j) (by omega) (by omega)
   omega
theorem MemT.apart {m:List Page}(h:MemT m){i j:Nat}(hi:i<m.length)(hj:j<m.length)(hne:i≠j):(pgN m i).base+256<=(pgN m j).base\/(pgN m j).base+256<=(pgN m i).base:=by
 by_cases hlt:i<j
 ·exact .inl (h.mono hlt hj)
 ·exact .inr (h.mono (by omega) hi)
theorem MemT.r {m:List Page}(h:MemT m):MemR m:=DS h.ok
structure Laid (m:List Page)(a:Int)(t:List UInt8)(n:Nat)(x:List Page):Prop where
 len:x.length=m.length
 pg:∀i,i<m.length->(pgN x i).base=(pgN m i).base/\(pgN x i).perm=(pgN m i).perm/\(pgN x i).data.length=256/\
  ∀k:Nat,k<256->(pgN x i).data.getD k 0=if a<=(pgN m i).base+k/\(pgN m i).base+k<a+n then t.getD ((pgN m i).base+k-a).toNat 0 else(pgN m i).data.getD k 0
theorem Laid.start {m:List Page}(h:MemT m)(a:Int)(t:List UInt8):Laid m a t 0 m:=by
 refine⟨rfl,fun i hi=>⟨rfl,rfl,(h.pg i hi).2.2.2.2.2,fun k hk=>?_⟩⟩
 rw[iN]
theorem Laid.memT {m x:List Page}{a:Int}{t:List UInt8}{n:Nat}(h:MemT m)(hx:Laid m a t n x):MemT x:=by
 refine⟨by rw[hx.len];exact h.len,fun i hi=>?_,fun i hi=>?_⟩
 ·rw[hx.len]at hi
  obtain⟨h1,h2,h3,_⟩:=hx.pg i hi
  obtain⟨a,b,c,d,e,f⟩:=h.pg i hi
  rw[h1,h2];exact⟨a,b,c,d,e,h3⟩
 ·rw[hx.len]at hi
  rw[(hx.pg i (by omega)).1,(hx.pg (i+1) hi).1]
  exact h.ord i hi
theorem G4 {x y:Page}(h1:x.base=y.base)(h2:x.perm=y.perm)(h3:x.data=y.data):x=y:=by
 cases x;cases y;simp only at h1 h2 h3;subst h1 h2 h3;rfl
theorem Laid.unique {m x y:List Page}{a:Int}{t:List UInt8}{n:Nat}(hx:Laid m a t n x)(hy:Laid m a t n y):x=y:=by
 refine List.ext_getElem (by rw[hx.len,hy.len]) fun i h1 h2=>?_
 have hi:i<m.length:=by rw[<-hx.len];exact h1
 obtain⟨a1,a2,a3,a4⟩:=hx.pg i hi
 obtain⟨b1,b2,b3,b4⟩:=hy.pg i hi
 rw[rV h1]at a1 a2 a3 a4
 rw[rV h2]at b1 b2 b3 b4
 refine G4 (by rw[a1,b1]) (by rw[a2,b2]) (List.ext_getElem (by rw[a3,b3]) fun k k1 k2=>?_)
 have e1:=a4 k (by omega)
 have e2:=b4 k (by omega)
 rw[<-e2]at e1
 simpa[k1,k2]using e1
theorem Laid.step {m x:List Page}{a:Int}{t:List UInt8}{j:Nat}(hm:MemT m)(hx:Laid m a t j x){i:Nat}(hi:i<m.length){o c:Nat}
  (ho:(o:Int)=a+j-(pgN m i).base) (hoc:o+c<=256) (hjc:j+c<=t.length):
  Laid m a t (j+c) (x.set i (Page.mk (pgN x i).base (pgN x i).perm ((pgN x i).data.take o++(t.drop j).take c++(pgN x i).data.drop (o+c)))):=by
 refine⟨by rw[List.length_set];exact hx.len,fun i' hi'=>?_⟩
 obtain⟨h1,h2,h3,h4⟩:=hx.pg i' hi'
 by_cases he:i'=i
 ·subst he
  have hset:∀p:Page,pgN (x.set i' p) i'=p:=fun p=>by unfold pgN;rw[List.getD_eq_getElem?_getD,List.getElem?_set_self (by rw[hx.len];exact hi'),Option.getD_some]
  rw[hset]
  have l1:((pgN x i').data.take o).length=o:=by rw[List.length_take];omega
  have l2:((t.drop j).take c).length=c:=by rw[List.length_take,List.length_drop];omega
  refine⟨h1,h2,by simp only[List.length_append,l1,l2,List.length_drop];omega,fun k hk=>?_⟩
  have h4:=h4 k hk
  dsimp only
  rw[List.getD_eq_getElem?_getD]at h4|-
  by_cases k1:k<o
  ·rw[List.append_assoc,List.getElem?_append_left (by omega),List.getElem?_take,if_pos k1,h4]
   by_cases hc:a<=(pgN m i').base+k/\(pgN m i').base+k<a+j
   ·rw[if_pos hc,iP]
   ·rw[if_neg hc,iN]
  ·by_cases k2:k<o+c
   ·rw[List.append_assoc,List.getElem?_append_right (by omega),l1,List.getElem?_append_left (by omega),List.getElem?_take,iP,List.getElem?_drop,iP,List.getD_eq_getElem?_getD]
    rw[show j+(k-o)=((pgN m i').base+k-a).toNat by omega]
   ·rw[List.getElem?_append_right (by rw[List.length_append];omega),List.length_append,l1,l2,List.getElem?_drop,show o+c+(k-(o+c))=k by omega,h4,iN,iN]
 ·rw[show pgN (x.set i _) i'=pgN x i' from by unfold pgN;rw[List.getD_eq_getElem?_getD,List.getElem?_set_ne (by omega),<-List.getD_eq_getElem?_getD]]
  refine⟨h1,h2,h3,fun k hk=>?_⟩
  rw[h4 k hk]
  rcases hm.apart hi' hi he with hp|hp
  ·by_cases hc:a<=(pgN m i').base+k/\(pgN m i').base+k<a+j
   ·rw[if_pos hc,iP]
   ·rw[if_neg hc,iN]
  ·by_cases hc:a<=(pgN m i').base+k/\(pgN m i').base+k<a+j
   ·rw[if_pos hc,iP]
   ·rw[if_neg hc,iN]
theorem tb {p q:Page->Bool}:∀ {m x:List Page} {i:Nat},x.length=m.length->(∀j,j<m.length->p (pgN m j)=q (pgN x j))->du p m i=du q x i
 |[],[],_,_,_=>rfl
 |[],_::_,_,h,_=>by simp at h
 |_::_,[],_,h,_=>by simp at h
 |a::r,b::s,i,hl,h=>by
  have h0:=h 0 (by simp)
  simp only[pgN,List.getD_cons_zero]at h0
  simp only[du,h0]
  rw[tb (m:=r) (x:=s) (i:=i+1) (by simpa using hl) fun j hj=>by simpa[pgN]using h (j+1) (by simp;omega)]
theorem Laid.fnd {m x:List Page}{a:Int}{t:List UInt8}{n:Nat}(hx:Laid m a t n x)(b:Int):fnd x b=fnd m b:=by
 unfold Go.Den.G.fnd
 exact(tb hx.len fun j hj=>by unfold j8;rw[(hx.pg j hj).1]).symm
theorem zX (m:List Page)(i:Nat):aR m (i:Int) (az .page)=pgN m i:=by simp[pgN,aR]
theorem own_eq (m:List Page)(hm:m.length<=1048576):iY (((m,()),()),())=some ((),m,()):=by
 unfold iY
 dsimp only
 rw[show fL ([]:List Page) m=true from gA (by simp;omega),aE];rfl
theorem nV (m:List Page)(hm:m.length<=1048576):bj (((m,()),()),())=some ((),m,()):=by
 unfold bj bG
 dsimp only
 rw[show fL ([]:List Page) m=true from gA (by simp;omega),aE]
 cases m with
 |nil=>rw[show eqI (bL ([]:List Page)) 0=true from rfl,aE];rw[show gR ([]:List Page) []=[]from rfl];unfold eqO;rw[if_pos rfl,aa]
 |cons p r=>rw[show eqI (bL (p::r)) 0=false from aq (by simp[aV];omega),ak,aa];rfl
theorem H9 (m:List Page)(hm:MemT m)(a:Int)(t:List UInt8)(_ha:I64 a)(ht:t.length<=8192)(hok:∀k,k<t.length->¬fnd m (a+(k:Nat))<0):
  ∃x,fm (((m,()),a,t,()),())=some ((x,()),())/\Laid m a t t.length x:=by
 unfold fm
 dsimp only
 rw[own_eq m (by have:=hm.len;omega),aa]
 refine ng (fun s=>∃j:Nat,j<=t.length/\s.1.1=a+j/\s.1.2.1=t.drop j/\Laid m a t j s.2.2.1) (fun s=>s.1.2.1.length) (fun _ o=>∃x,o=some ((x,()),())/\Laid m a t t.length x) ?_ F _ ⟨0,by simp,by simp,by simp,Laid.start hm a t⟩ (by unfold F;dsimp only;omega)
 rintro⟨⟨b,u,_⟩,_,x,_,_⟩ rec ⟨j,hj,h1,h2,hx⟩ hrec
 dsimp only at h1 h2 hx hrec|-
 subst h1 h2
 rw[show bL (t.drop j)=((t.length-j:Nat):Int)from by rw[aV,List.length_drop]]
 by_cases hjl:j<t.length
 ·have hmx:=hx.memT hm
  have hf:=hok j hjl
  rw[<-hx.fnd]at hf
  rcases nf hmx.r (a+j)with h0|⟨i,hi,h0,hb1,hb2,r0,r1,hb3,hdl⟩
  ·rw[h0]at hf;exact absurd (by decide) hf
  ·have him:i<m.length:=by rw[<-hx.len];exact hi
   obtain⟨p1,p2,p3,p4,p5,p6⟩:=hmx.pg i hi
   rw[<-rV hi]at hb1 hb2 hb3 hdl
   obtain⟨o,ho⟩:=Int.eq_ofNat_of_zero_le (show 0<=a+j-(pgN x i).base by omega)
   have hs:aT .i64 (a+j) (pgN x i).base=(o:Int):=by rw[bn,ho]
   obtain⟨c,hc⟩:∃c:Nat,c=min (t.length-j) (256-o):=⟨_,rfl⟩
   have hi':gI ((t.length-j:Nat):Int) (aT .i64 256 (o:Int))=(c:Int):=by
    rw[bn];unfold gI;split<;>omega
   have hfi:fnd x (a+j)=(i:Int):=h0
   rw[ae (fv),lR x hmx.r _ (by unfold I64;omega),aa]
   dsimp only
   rw[hfi]
   simp only[zX,hs,hi',aV,p6]
   rw[aH (a:=(o:Int)),aH (a:=a+j)]
   rw[ae (cA),ae (cA),ae (mC),ae (mC)]
   rw[ae (gA (by unfold iL;simp only[List.length_take];omega)),ae (mC)]
   rw[ae (gA (by unfold iL jX gR;simp only[List.length_take,List.length_append,List.length_drop];omega)),ae (cA),ae (mC)]
   refine hrec _ ⟨j+c,by omega,by dsimp only;omega,?_,?_⟩ ?_
   ·dsimp only;unfold jX;rw[List.drop_drop,Int.toNat_natCast]
   ·have:=Laid.step hm hx him (o:=o) (c:=c) (by rw[<-(hx.pg i him).1];omega) (by omega) (by omega)
    dsimp only
    unfold cF iL jX gR
    rw[Int.toNat_natCast,Int.toNat_natCast,Int.toNat_natCast,show((o:Int)+(c:Int)).toNat=o+c by omega]
    exact this
   ·dsimp only;unfold jX;simp only[List.length_drop];omega
 ·have:j=t.length:=by omega
  subst this
  rw[ag (fM)]
  exact⟨x,rfl,hx⟩
theorem HY (m:List Page)(hm:MemT m)(a:Int)(t:List UInt8)(_ha:I64 a)(ht:t.length<=8192)(hok:∀k,k<t.length->¬fnd m (a+(k:Nat))<0):
  ∃x,da (((m,()),a,t,()),())=some ((),x,())/\Laid m a t t.length x:=by
 unfold da
 dsimp only
 rw[nV m (by have:=hm.len;omega),aa]
 refine ng (fun s=>∃j:Nat,j<=t.length/\s.1.1=a+j/\s.1.2.1=t.drop j/\Laid m a t j s.2.2.2.2.1/\s.2.1.1=m) (fun s=>s.1.2.1.length) (fun _ o=>∃x,o=some ((),x,())/\Laid m a t t.length x) ?_ F _ ⟨0,by simp,by simp,by simp,Laid.start hm a t,rfl⟩ (by unfold F;dsimp only;omega)
 rintro⟨⟨b,u,_⟩,⟨m',_⟩,_,_,x,_⟩ rec ⟨j,hj,h1,h2,hx,h3⟩ hrec
 dsimp only at h1 h2 h3 hx hrec|-
 subst h1 h2 h3
 rw[show bL (t.drop j)=((t.length-j:Nat):Int)from by rw[aV,List.length_drop]]
 by_cases hjl:j<t.length
 ·have hmx:=hx.memT hm
  have hf:=hok j hjl
  rcases nf hm.r (a+j)with h0|⟨i,hi,h0,hb1,hb2,r0,r1,hb3,hdl⟩
  ·rw[h0]at hf;exact absurd (by decide) hf
  ·have hix:i<x.length:=by rw[hx.len];exact hi
   obtain⟨p1,p2,p3,p4,p5,p6⟩:=hmx.pg i hix
   rw[<-rV hi]at hb1 hb2 hb3 hdl
   have hbe:=(hx.pg i hi).1
   obtain⟨o,ho⟩:=Int.eq_ofNat_of_zero_le (show 0<=a+j-(pgN m' i).base by omega)
   have hs:fw (a+j) 256=(o:Int):=by rw[dG r0];omega
   obtain⟨c,hc⟩:∃c:Nat,c=min (t.length-j) (256-o):=⟨_,rfl⟩
   have hi':gI ((t.length-j:Nat):Int) (aT .i64 256 (o:Int))=(c:Int):=by
    rw[bn];unfold gI;split<;>omega
   have hfi:fnd m' (a+j)=(i:Int):=h0
   rw[ae (fv),iy m' hm.r,aa]
   dsimp only
   rw[hfi]
   simp only[zX,hs,hi',aV,p6]
   rw[aH (a:=(o:Int)),aH (a:=a+j)]
   rw[ae (cA),ae (mC),ae (mC)]
   rw[ae (gA (by unfold iL;simp only[List.length_take];omega)),ae (mC)]
   rw[ae (gA (by unfold iL jX gR;simp only[List.length_take,List.length_append,List.length_drop];omega)),ae (mC)]
   refine hrec _ ⟨j+c,by omega,by dsimp only;omega,?_,?_,rfl⟩ ?_
   ·dsimp only;unfold jX;rw[List.drop_drop,Int.toNat_natCast]
   ·have:=Laid.step hm hx hi (o:=o) (c:=c) (by omega) (by omega) (by omega)
    dsimp only
    unfold cF iL jX gR
    rw[Int.toNat_natCast,Int.toNat_natCast,Int.toNat_natCast,show((o:Int)+(c:Int)).toNat=o+c by omega]
    exact this
   ·dsimp only;unfold jX;simp only[List.length_drop];omega
 ·have:j=t.length:=by omega
  subst this
  rw[ag (fM)]
  exact⟨x,rfl,hx⟩
def sx (m:Nat)(v:Int):Int:=if(v%2^64/2^m)%2=1 then v%2^(m+1)-2^(m+1)else v%2^(m+1)
theorem ml {n:Int}(h0:0<=n)(h1:n<2^64):IntKind.wrap .u64 n=n:=by
 simp only[IntKind.wrap,IntKind.bits,IntKind.signed,Bool.false_and,Bool.false_eq_true,if_false]
 exact Int.emod_eq_of_lt h0 h1
theorem HF (n:Int):IntKind.wrap .u64 n=n%2^64:=by
 simp[IntKind.wrap,IntKind.bits,IntKind.signed]
theorem mF (v i:Int)(h0:0<=i)(h1:i<=63):aO ((v,i,()),())=some (v%2^64/2^i.toNat%2,()):=by
 unfold aO
 dsimp only
 have hw:aj IntKind.u64 i=i:=ml h0 (by omega)
 rw[hw,ae (fu h0)]
 have hi:min i.toNat 64=i.toNat:=by omega
 have e:fw (cu IntKind.u64 (aj IntKind.u64 v) i) 2=v%2^64/2^i.toNat%2:=by
  unfold fw cu aj
  rw[HF]
  show Int.tmod (Int.fdiv (v%2^64) (2^(min i.toNat 64))) 2=_
  rw[hi]
  have hp:(0:Int)<2^i.toNat:=Int.pow_pos (by decide)
  rw[Int.fdiv_eq_ediv_of_nonneg _ (Int.le_of_lt hp),Int.tmod_eq_emod_of_nonneg (Int.ediv_nonneg (Int.emod_nonneg _ (by decide)) (Int.le_of_lt hp))]
 rw[e]
 rcases Int.emod_two_eq (v%2^64/2^i.toNat)with h|h
 ·rw[h,ag (aq (by decide))]
 ·rw[h,ae (be rfl)]
def jn (m u:Nat):Nat:=2^(m+1)*((u/2^m%2)*(2^(63-m)-1))+u%2^(m+1)
theorem BO (m u i:Nat)(hm:m<=63)(hi:i<=63):jn m u/2^i%2=u/2^(min i m)%2:=by
 have hb:∀a j:Nat,a/2^j%2=(a.testBit j).toNat:=fun a j=>by rw[Nat.testBit_eq_decide_div_mod_eq];rcases Nat.mod_two_eq_zero_or_one (a/2^j)with h|h<;>simp[h]
 rw[hb,hb]
 congr 1
 unfold jn
 rw[Nat.testBit_two_pow_mul_add _ (Nat.mod_lt _ (Nat.two_pow_pos _))]
 split
 ·rename_i h
  rw[Nat.testBit_mod_two_pow,show min i m=i by omega]
  simp[h]
 ·rename_i h
  rw[show min i m=m by omega,hb]
  cases hs:u.testBit m with
  |false=>simp
  |true=>
   simp only[Bool.toNat_true,Nat.one_mul]
   rw[Nat.testBit_two_pow_sub_one]
   simp;omega
theorem sn (m u:Nat)(hm:m<=63):jn m u<2^64:=by
 unfold jn
 have h1:u%2^(m+1)<2^(m+1):=Nat.mod_lt _ (Nat.two_pow_pos _)
 have h2:(u/2^m%2)*(2^(63-m)-1)<=2^(63-m)-1:=by
  have:u/2^m%2<=1:=by omega
  calc _<=1*(2^(63-m)-1):=Nat.mul_le_mul_right _ this
   _=_:=Nat.one_mul _
 have h3:2^(m+1)*2^(63-m)=(2:Nat)^64:=by rw[<-Nat.pow_add];congr 1;omega
 have h4:2^(m+1)*((u/2^m%2)*(2^(63-m)-1))<=2^(m+1)*(2^(63-m)-1):=Nat.mul_le_mul_left _ h2
 have h6:2^(m+1)*(2^(63-m)-1)=2^64-2^(m+1):=by rw[Nat.mul_sub,Nat.mul_one,h3]
 rw[h6]at h4
 have h5:(2:Nat)^(m+1)<=2^64:=Nat.pow_le_pow_right (by decide) (by omega)
 omega
def uns (v:Int):Nat:=(v%2^64).toNat
theorem bt (v:Int):((uns v:Nat):Int)=v%2^64:=by unfold uns;have:=Int.emod_nonneg v (show(2:Int)^64≠0 by decide);omega
theorem EE (m:Nat)(v:Int)(hm:m<=63):IntKind.wrap .i64 (jn m (uns v):Nat)=sx m v:=by
 have hlt:=sn m (uns v) hm
 have hu:=bt v
 have hp:((2^m:Nat):Int)=2^m:=by simp
 have hp1:((2^(m+1):Nat):Int)=2^(m+1):=by simp
 have hs:v%2^64/2^m%2=((uns v/2^m%2:Nat):Int):=by rw[<-hu];simp
 have hr:v%2^(m+1)=((uns v%2^(m+1):Nat):Int):=by
  have h1:v%2^(m+1)=v%2^64%2^(m+1):=by
   rw[Int.emod_emod_of_dvd]
   exact⟨2^(63-m),by rw[<-Int.pow_add];congr 1;omega⟩
  rw[h1,<-hu];simp
 have hmod:uns v%2^(m+1)<2^(m+1):=Nat.mod_lt _ (Nat.two_pow_pos _)
 have h64:2^(m+1)*2^(63-m)=(2:Nat)^64:=by rw[<-Nat.pow_add];congr 1;omega
 unfold sx
 rw[hs,hr]
 have hle:(2:Nat)^(m+1)<=2^64:=Nat.pow_le_pow_right (by decide) (by omega)
 have hdbl:(2:Nat)^(m+1)=2^m*2:=Nat.pow_succ 2 m
 have hle2:(2:Nat)^m<=2^63:=Nat.pow_le_pow_right (by decide) hm
 have hhi:uns v%2^(m+1)/2^m=uns v/2^m%2:=by rw[hdbl,Nat.mod_mul_right_div_self]
 rcases Nat.mod_two_eq_zero_or_one (uns v/2^m)with h|h
 ·rw[h,iD]
  have e:jn m (uns v)=uns v%2^(m+1):=by unfold jn;rw[h];simp
  rw[e]
  have:uns v%2^(m+1)<2^m:=by
   rw[h]at hhi
   exact(Nat.div_eq_zero_iff.1 hhi).resolve_left (by have:=Nat.two_pow_pos m;omega)
  exact dC (by unfold I64;omega)
 ·rw[h,if_pos (by rfl)]
  have e:jn m (uns v)+2^(m+1)=2^64+uns v%2^(m+1):=by
   unfold jn
   rw[h,Nat.one_mul,Nat.mul_sub,Nat.mul_one,h64]
   omega
  have h2:2^m<=uns v%2^(m+1):=by
   rw[h]at hhi
   have:=Nat.div_mul_le_self (uns v%2^(m+1)) (2^m)
   rw[hhi]at this;omega
  have:((jn m (uns v):Nat):Int)=((uns v%2^(m+1):Nat):Int)-2^(m+1)+2^64:=by rw[<-hp1];omega
  rw[this]
  have hw:∀n:Int,IntKind.wrap .i64 (n+2^64)=IntKind.wrap .i64 n:=fun n=>by
   have h3:(n+2^64)%2^IntKind.i64.bits=n%2^IntKind.i64.bits:=Int.add_emod_right ..
   simp only[IntKind.wrap,h3]
  rw[hw]
  rw[<-hp1]
  exact dC (by unfold I64;omega)
theorem gJ (v n:Int)(h0:1<=n)(h1:n<=8):aJ ((v,n,()),())=some (sx (8*n-1).toNat v,()):=by
 unfold aJ
 obtain⟨k,hk⟩:∃k:Nat,n=k:=⟨n.toNat,by omega⟩
 subst hk
 generalize hm:(8*(k:Int)-1).toNat=m
 have hm63:m<=63:=by omega
 refine(eD (fun x=>x.1.1=v/\x.1.2.1=(k:Int)/\ -1<=x.1.2.2.2.1/\x.1.2.2.2.1<=63/\x.1.2.2.1=((jn m (uns v)/2^(x.1.2.2.2.1+1).toNat:Nat):Int)) (fun x=>(x.1.2.2.2.1+1).toNat)
  (fun _=>some (sx m v,())) ?_ F _ ⟨rfl,rfl,by show(-1:Int)<=63;decide,by show(63:Int)<=63;decide,?_⟩ (by show((63:Int)+1).toNat<F;decide)).trans rfl
 ·rintro⟨⟨v',k',acc,i,_⟩,_⟩ rec ⟨rfl,hk',h2,h3,hacc⟩ hrec
  dsimp only at hk' h2 h3 hacc hrec|-
  subst hk'
  by_cases hi:0<=i
  ·obtain⟨j,rfl⟩:=Int.eq_ofNat_of_zero_le hi
   rw[ae (fu hi)]
   have e1:aT .i64 (bK .i64 8 (k:Int)) 1=(m:Int):=by
    rw[cX,bn];omega
   rw[e1]
   have e2:gI (j:Int) (m:Int)=((min j m:Nat):Int):=by unfold gI;split<;>omega
   rw[e2,mF _ _ (by omega) (by omega),aa]
   dsimp only
   have e3:v'%2^64/2^(((min j m:Nat):Int)).toNat%2=((jn m (uns v')/2^j%2:Nat):Int):=by
    rw[BO m _ j hm63 (by omega),<-bt];simp
   rw[e3]
   have hlt:=sn m (uns v') hm63
   have e4:jn m (uns v')/2^(((j:Int)+1).toNat)=jn m (uns v')/2^j/2:=by
    rw[show((j:Int)+1).toNat=j+1 by omega,Nat.pow_succ,Nat.div_div_eq_div_mul]
   rw[e4]at hacc
   generalize hq:jn m (uns v')/2^j=q at hacc|-
   have hq2:q<2^64:=by rw[<-hq];exact Nat.lt_of_le_of_lt (Nat.div_le_self _ _) hlt
   have e5:aB .u64 (bK .u64 2 acc) (aj .u64 ((q%2:Nat):Int))=(q:Int):=by
    unfold aB bK aj
    rw[hacc,ml (n:=2*((q/2:Nat):Int)) (by omega) (by omega),ml (n:=((q%2:Nat):Int)) (by omega) (by omega),ml (by omega) (by omega)]
    omega
   rw[e5,bn]
   refine hrec _ ⟨rfl,rfl,by dsimp only;omega,by dsimp only;omega,?_⟩ (by dsimp only;omega)
   dsimp only
   rw[show((j:Int)-1+1).toNat=j by omega,hq]
  ·rw[ag (j9 hi)]
   have:i= -1:=by omega
   subst this
   rw[hacc]
   have:jn m (uns v')/2^((-1:Int)+1).toNat=jn m (uns v'):=by simp
   rw[this]
   show some (IntKind.wrap .i64 _,())=_
   rw[EE m v' hm63]
 ·have hlt:=sn m (uns v) hm63
  show(0:Int)=((jn m (uns v)/2^((63:Int)+1).toNat:Nat):Int)
  rw[show((63:Int)+1).toNat=64 from rfl,Nat.div_eq_of_lt hlt];rfl
theorem kW (v n:Int)(h0:1<=n)(h1:n<=8):bh ((v,n,()),())=some (sx (8*n-1).toNat v,()):=by
 unfold bh
 dsimp only
 have e:aT .i64 64 (bK .i64 8 n)=64-8*n:=by rw[cX,bn]
 rw[e,ae (fu),ae (fu)]
 congr 2
 obtain⟨m,hm⟩:∃m:Nat,8*n-1=m:=⟨(8*n-1).toNat,by omega⟩
 have hn:64-8*n=((63-m:Nat):Int):=by omega
 rw[hm,hn]
 have hm63:m<=63:=by omega
 simp only[Int.toNat_natCast]
 unfold cu dD
 rw[show min (((63-m:Nat):Int)).toNat IntKind.i64.bits=63-m by simp[IntKind.bits];omega]
 have hp:(0:Int)<2^(63-m):=Int.pow_pos (by decide)
 rw[Int.fdiv_eq_ediv_of_nonneg _ (Int.le_of_lt hp)]
 have h64:(2:Int)^(m+1)*2^(63-m)=2^64:=by rw[<-Int.pow_add];congr 1;omega
 have h63:(2:Int)^m*2^(63-m)=2^63:=by rw[<-Int.pow_add];congr 1;omega
 have hr:=Int.emod_nonneg v (show(2:Int)^(m+1)≠0 from Int.ne_of_gt (Int.pow_pos (by decide)))
 have hr2:=Int.emod_lt_of_pos v (show(0:Int)<2^(m+1)from Int.pow_pos (by decide))
 have hsv:v%2^64/2^m%2=v%2^(m+1)/2^m:=by
  have h1:v%2^(m+1)=v%2^64%2^(m+1):=by
   rw[Int.emod_emod_of_dvd]
   exact⟨2^(63-m),h64.symm⟩
  rw[h1,Int.pow_succ 2 m]
  have hu:=bt v
  rw[<-hu]
  have:((2:Int)^m)=((2^m:Nat):Int):=by simp
  rw[this]
  have h2:((2^m:Nat):Int)*2=((2^m*2:Nat):Int):=by simp
  rw[h2]
  rw[<-Int.natCast_ediv,<-Int.natCast_emod,<-Int.natCast_ediv,Nat.mod_mul_right_div_self]
  simp
 have hdm:v=v%2^(m+1)+2^(m+1)*(v/2^(m+1)):=(Int.emod_add_mul_ediv ..).symm
 have hmul:v*2^(63-m)%2^64=v%2^(m+1)*2^(63-m):=by
  rw[<-h64,Int.mul_comm v,Int.mul_comm (2^(m+1)),Int.mul_emod_mul_of_pos _ _ hp,Int.mul_comm]
 unfold sx
 rw[hsv]
 generalize v%2^(m+1)=r at*
 have hpm:(0:Int)<2^m:=Int.pow_pos (by decide)
 have hdbl:(2:Int)^(m+1)=2^m*2:=Int.pow_succ 2 m
 simp only[IntKind.wrap,IntKind.bits,IntKind.signed,Bool.true_and,decide_eq_true_eq,ge_iff_le]
 rw[show((64:Nat)-1)=63 from rfl,hmul]
 by_cases hs:(2:Int)^m<=r
 ·have hq:r/2^m=1:=by
   rw[Int.ediv_eq_iff_of_pos hpm]
   omega
  rw[hq,if_pos rfl]
  have hge:(2:Int)^63<=r*2^(63-m):=by rw[<-h63];exact Int.mul_le_mul_of_nonneg_right hs (Int.le_of_lt hp)
  rw[if_pos hge,<-h64,<-Int.sub_mul,Int.mul_ediv_cancel _ (Int.ne_of_gt hp)]
 ·have hq:r/2^m=0:=Int.ediv_eq_zero_of_lt hr (by omega)
  rw[hq]
  have hge:¬(2:Int)^63<=r*2^(63-m):=by
   rw[<-h63,Int.not_le]
   exact Int.mul_lt_mul_of_pos_right (by omega) hp
  rw[if_neg hge,iD,Int.mul_ediv_cancel _ (Int.ne_of_gt hp)]
def fitsB (v n:Int):Bool:=eqI (sx (8*n-1).toNat v) v
def byI (v:Int)(k:Nat):Int:=v/2^(8*k)%256
def leB (v:Int)(n:Nat):List UInt8:=j5 ((List.range n).map (byI v))
theorem py (v:Int)(n:Nat):(leB v n).length=n:=by simp[leB,j5]
theorem shrI (v:Int)(k:Nat)(hk:k<8):aj .u8 (cu .i64 v (8*(k:Int)))=byI v k:=by
 unfold cu byI aj
 rw[vH,show(8*(k:Int)).toNat=8*k by omega,show min (8*k) (IntKind.bits .i64)=8*k from by simp only[IntKind.bits];omega]
 rw[Int.fdiv_eq_ediv_of_nonneg _ (Int.le_of_lt (Int.pow_pos (by decide)))]
theorem shrU (v:Int)(k:Nat)(hk:k<8):aj .u8 (cu .u64 (aj .u64 v) (aj .u64 (8*(k:Int))))=byI v k:=by
 rw[cJ (n:=8*(k:Int)) (by omega) (by omega)]
 unfold cu byI aj
 rw[vH,fh,show(8*(k:Int)).toNat=8*k by omega,show min (8*k) (IntKind.bits .u64)=8*k from by simp only[IntKind.bits];omega]
 rw[Int.fdiv_eq_ediv_of_nonneg _ (Int.le_of_lt (Int.pow_pos (by decide)))]
 match k,hk with
 |0,_=>show v%18446744073709551616/1%256=v/1%256;omega
 |1,_=>show v%18446744073709551616/256%256=v/256%256;omega
 |2,_=>show v%18446744073709551616/65536%256=v/65536%256;omega
 |3,_=>show v%18446744073709551616/16777216%256=v/16777216%256;omega
 |4,_=>show v%18446744073709551616/4294967296%256=v/4294967296%256;omega
 |5,_=>show v%18446744073709551616/1099511627776%256=v/1099511627776%256;omega
 |6,_=>show v%18446744073709551616/281474976710656%256=v/281474976710656%256;omega
 |7,_=>show v%18446744073709551616/72057594037927936%256=v/72057594037927936%256;omega
theorem wC (v:Int)(n:Nat)(hn:n<=8):fF ((v,(n:Int),()),())=some (leB v n,()):=by
 unfold fF
 dsimp only
 refine(eD (fun s=>s.1.1=v/\s.1.2.1=(n:Int)/\∃k:Nat,k<=n/\s.1.2.2.1=(k:Int)/\s.2.1=(List.range k).map (byI v)) (fun s=>n-s.1.2.2.1.toNat) (fun _=>some (leB v n,())) ?_ F _ ⟨rfl,rfl,0,by omega,by simp,by simp⟩ (by unfold F;dsimp only;omega))
 rintro⟨⟨b,l,i,_⟩,u,_⟩ rec ⟨h1,h2,k,hk,h3,h4⟩ hrec
 dsimp only at h1 h2 h3 h4 hrec|-
 subst h1 h2 h3 h4
 by_cases hl:k<n
 ·rw[cX,shrU b k (by omega),cJ (n:=8*(k:Int)) (by omega) (by omega),ae (fv),ae (fu),ae (gA (by simp;omega)),aH]
  refine hrec _ ⟨rfl,rfl,k+1,by omega,by dsimp only;omega,?_⟩ (by dsimp only;omega)
  dsimp only
  rw[List.range_succ,List.map_append];rfl
 ·have:k=n:=by omega
  subst this
  rw[ag (fM)];rfl
theorem DG (v:Int)(n:Nat)(hn:n<=8):iT ((v,(n:Int),()),())=some (leB v n,()):=by
 unfold iT
 dsimp only
 rw[ae (mC),ae (yy (by omega))]
 have hr:bL (sM (n:Int) (az .u))=(n:Int):=by simp[bL,sM]
 rw[hr]
 refine(eD (fun s=>s.1.1=v/\s.1.2.1=(n:Int)/\∃k:Nat,k<=n/\s.1.2.2.1=(k:Int)/\s.2.1=(List.range k).map (byI v)++List.replicate (n-k) (az .u)) (fun s=>n-s.1.2.2.1.toNat) (fun _=>some (leB v n,())) ?_ F _ ⟨rfl,rfl,0,by omega,by simp,by simp[sM]⟩ (by unfold F;dsimp only;omega))
 rintro⟨⟨b,l,i,_⟩,u,_⟩ rec ⟨h1,h2,k,hk,h3,h4⟩ hrec
 dsimp only at h1 h2 h3 h4 hrec|-
 subst h1 h2 h3
 have hul:u.length=n:=by rw[h4];simp;omega
 by_cases hl:k<n
 ·rw[cX,shrI b k (by omega),ae (fv),ae (fu),ae (cA (by omega) (by rw[aV];omega)),aH]
  refine hrec _ ⟨rfl,rfl,k+1,by omega,by dsimp only;omega,?_⟩ (by dsimp only;omega)
  dsimp only
  rw[h4]
  unfold cF
  rw[Int.toNat_natCast,List.set_append_right _ _ (by simp),List.length_map,List.length_range,Nat.sub_self,show n-k=(n-(k+1))+1 by omega,List.replicate_succ,List.range_succ,List.map_append,List.append_assoc];rfl
 ·have:k=n:=by omega
  subst this
  rw[ag (fM),h4,Nat.sub_self]
  simp[leB]
theorem uM {n:Int}(h:cl n=true):n=1\/n=2\/n=4\/n=8:=by
 simp only[cl,eqI,Bool.or_eq_true,decide_eq_true_eq]at h;exact h
theorem rN (v:Int):(BitVec.ofInt 64 v).toNat=(v%18446744073709551616).toNat:=by
 rw[BitVec.toNat_ofInt];rfl
theorem oG (v:Int)(j:Nat)(hj:j<63):cz .i64 v (2^j-1)=v%2^j:=by
 unfold cz
 show IntKind.wrap .i64 (((BitVec.ofInt 64 v&&& BitVec.ofInt 64 (2^j-1)).toNat:Nat):Int)=_
 rw[BitVec.toNat_and,rN,rN]
 have hp:(1:Int)<=2^j:=Int.pow_pos (by decide)
 have hp2:(2:Int)^j*2^(63-j)=9223372036854775808:=by rw[<-Int.pow_add,show j+(63-j)=63 by omega];rfl
 have hp3:(1:Int)<=2^(63-j):=Int.pow_pos (by decide)
 have hle:(2:Int)^j<=9223372036854775808:=by
  have:=Int.mul_le_mul_of_nonneg_left hp3 (show(0:Int)<=2^j by omega)
  omega
 have e2:(((2:Int)^j-1)%18446744073709551616).toNat=2^j-1:=by
  rw[Int.emod_eq_of_lt (by omega) (by omega)]
  have:((2^j:Nat):Int)=(2:Int)^j:=by simp
  omega
 rw[e2,Nat.and_two_pow_sub_one_eq_mod]
 have e3:((v%18446744073709551616).toNat%2^j:Nat)=((v%2^j).toNat):=by
  have h1:((v%18446744073709551616).toNat:Int)=v%18446744073709551616:=Int.toNat_of_nonneg (by omega)
  have h2:(((v%18446744073709551616).toNat%2^j:Nat):Int)=v%2^j:=by
   rw[Int.natCast_emod,h1,Int.natCast_pow]
   refine Int.emod_emod_of_dvd v ⟨2^(63-j)*2,?_⟩
   show(18446744073709551616:Int)=2^j*(2^(63-j)*2)
   rw[<-Int.mul_assoc,hp2];rfl
  omega
 rw[e3,Int.toNat_of_nonneg (Int.emod_nonneg _ (by omega))]
 have h5:=Int.emod_lt_of_pos v (show(0:Int)<2^j by omega)
 have h6:=Int.emod_nonneg v (show(2:Int)^j≠0 by omega)
 exact dC ⟨by omega,by omega⟩
def bV (v:Int)(n:Nat):Int:=if n=8 then v else v%2^(8*n)
theorem bQ (v:Int)(n:Nat)(hn:cl (n:Int)=true):af ((v,(n:Int),()),())=some (bV v n,()):=by
 unfold af bV
 dsimp only
 by_cases h8:n=8
 ·subst h8;rw[show eqI ((8:Nat):Int) 8=true from rfl,aE,if_pos rfl]
 ·have hn4:n<=4:=by rcases uM hn with h|h|h|h<;>omega
  rw[ag (aq),cX,ae (fu),if_neg h8]
  have hs:aT .i64 (dD .i64 1 (8*(n:Int))) 1=2^(8*n)-1:=by
   rcases uM hn with h|h|h|h
   ·have:n=1:=by omega
    subst this;rfl
   ·have:n=2:=by omega
    subst this;rfl
   ·have:n=4:=by omega
    subst this;rfl
   ·omega
  rw[hs,oG v (8*n) (by omega)]
instance decI64 (n:Int):Decidable (I64 n):=by unfold I64;infer_instance
theorem pX (v:Int)(k:Nat)(h0:1<=k)(h1:k<=8):an ((v,(k:Int),()),())=some (IntKind.wrap .i64 ((uns v%2^(8*k):Nat):Int),()):=by
 unfold an
 dsimp only
 rw[cX,bn]
 have hu:uns v%2^(8*k)<2^(8*k):=Nat.mod_lt _ (Nat.two_pow_pos _)
 have hp:(2:Nat)^(8*k)<=2^64:=Nat.pow_le_pow_right (by decide) (by omega)
 generalize hw:uns v%2^(8*k)=w at hu|-
 refine eD (fun x=>x.1.1=v/\ -1<=x.1.2.2.1/\x.1.2.2.1<=8*(k:Int)-1/\x.1.2.1=((w/2^(x.1.2.2.1+1).toNat:Nat):Int)) (fun x=>(x.1.2.2.1+1).toNat)
  (fun _=>some (IntKind.wrap .i64 (w:Int),())) ?_ F _ ⟨rfl,by dsimp only;omega,by dsimp only;omega,?_⟩ (by unfold F;dsimp only;omega)
 ·rintro⟨⟨v',acc,i,_⟩,_⟩ rec ⟨rfl,h2,h3,hacc⟩ hrec
  dsimp only at h2 h3 hacc hrec|-
  by_cases hi:0<=i
  ·obtain⟨j,rfl⟩:=Int.eq_ofNat_of_zero_le hi
   rw[ae (fu hi),mF _ _ (by omega) (by omega),aa]
   dsimp only
   have e3:v'%2^64/2^((j:Int)).toNat%2=((w/2^j%2:Nat):Int):=by
    have hb:∀a j:Nat,a/2^j%2=(a.testBit j).toNat:=fun a j=>by rw[Nat.testBit_eq_decide_div_mod_eq];rcases Nat.mod_two_eq_zero_or_one (a/2^j)with h|h<;>simp[h]
    have:w/2^j%2=uns v'/2^j%2:=by
     rw[hb,hb,<-hw,Nat.testBit_mod_two_pow,dT,Bool.true_and]
    rw[this,<-bt];simp
   rw[e3]
   have e4:w/2^(((j:Int)+1).toNat)=w/2^j/2:=by
    rw[show((j:Int)+1).toNat=j+1 by omega,Nat.pow_succ,Nat.div_div_eq_div_mul]
   rw[e4]at hacc
   generalize hq:w/2^j=q at hacc|-
   have hq2:q<2^64:=by rw[<-hq];exact Nat.lt_of_le_of_lt (Nat.div_le_self _ _) (by omega)
   have e5:aB .u64 (bK .u64 2 acc) (aj .u64 ((q%2:Nat):Int))=(q:Int):=by
    unfold aB bK aj
    rw[hacc,ml (n:=2*((q/2:Nat):Int)) (by omega) (by omega),ml (n:=((q%2:Nat):Int)) (by omega) (by omega),ml (by omega) (by omega)]
    omega
   rw[e5,bn]
   refine hrec _ ⟨rfl,by dsimp only;omega,by dsimp only;omega,?_⟩ (by dsimp only;omega)
   dsimp only
   rw[show((j:Int)-1+1).toNat=j by omega,hq]
  ·rw[ag (j9 hi)]
   have:i= -1:=by omega
   subst this
   rw[hacc]
   simp
   rfl
 ·dsimp only
  rw[show(8*(k:Int)-1+1).toNat=8*k by omega,Nat.div_eq_of_lt hu];rfl
theorem bw {v:Int}(hv:I64 v)(k:Nat)(hk:cl (k:Int)=true):an ((v,(k:Int),()),())=some (bV v k,()):=by
 obtain⟨k1,k8⟩:1<=k/\k<=8:=by rcases uM hk with h|h|h|h<;>omega
 rw[pX v k k1 k8]
 unfold bV
 by_cases h8:k=8
 ·subst h8
  rw[if_pos rfl]
  have hlt:uns v<2^64:=by have:=bt v;have:=Int.emod_lt_of_pos v (show(0:Int)<2^64 by decide);omega
  rw[show 8*8=64 from rfl,Nat.mod_eq_of_lt hlt,bt]
  have he:IntKind.wrap .i64 (v%2^64)=IntKind.wrap .i64 v:=by
   simp[IntKind.wrap,IntKind.bits]
  rw[he,dC hv]
 ·rw[if_neg h8]
  have e:((uns v%2^(8*k):Nat):Int)=v%2^(8*k):=by
   rw[Int.natCast_emod,bt,show((2^(8*k):Nat):Int)=(2:Int)^(8*k)by simp]
   refine Int.emod_emod_of_dvd v ⟨2^(64-8*k),?_⟩
   rw[<-Int.pow_add];congr 1;omega
  rw[e]
  have h1:=Int.emod_nonneg v (show(2:Int)^(8*k)≠0 from Int.ne_of_gt (Int.pow_pos (by decide)))
  have h2:=Int.emod_lt_of_pos v (show(0:Int)<2^(8*k)from Int.pow_pos (by decide))
  have h3:(2:Int)^(8*k)<=2^32:=by
   have:k=1\/k=2\/k=4:=by rcases uM hk with h|h|h|h<;>omega
   rcases this with rfl|rfl|rfl<;>decide
  generalize (2:Int)^(8*k)=q at h1 h2 h3|-
  rw[dC (n:=v%q) ⟨by omega,by omega⟩]
def l7 (v:Int)(k:Nat):Bool:=decide (v%2^64/2^k%2=1)
theorem jd (v:Int)(k:Nat):l7 v k=(uns v).testBit k:=by
 unfold l7
 rw[<-bt,Nat.testBit_eq_decide_div_mod_eq]
 have e:((uns v:Int)/2^k%2=1)↔(uns v/2^k%2=1):=by
  have:((uns v:Int)/2^k%2)=((uns v/2^k%2:Nat):Int):=by simp
  rw[this];omega
 simp only[e]
theorem eJ (v:Int):uns v<2^64:=by have:=bt v;have:=Int.emod_lt_of_pos v (show(0:Int)<2^64 by decide);omega
theorem b8 (v:Int):uns (IntKind.wrap .i64 v)=uns v:=by
 unfold uns
 have:IntKind.wrap .i64 v%2^64=v%2^64:=by
  simp only[IntKind.wrap,IntKind.bits,IntKind.signed,Bool.true_and]
  split<;>omega
 rw[this]
theorem fg {n:Nat}(h:n<2^64):uns (n:Int)=n:=by unfold uns;omega
theorem qO (a b:Int):uns (cz .i64 a b)=uns a&&& uns b:=by
 unfold cz
 rw[b8]
 show uns (((BitVec.ofInt 64 a&&& BitVec.ofInt 64 b).toNat:Nat):Int)=_
 rw[fg (BitVec.isLt _),BitVec.toNat_and];rfl
theorem qP (a b:Int):uns (rz .i64 a b)=uns a ^^^uns b:=by
 unfold rz
 rw[b8]
 show uns (((BitVec.ofInt 64 a ^^^BitVec.ofInt 64 b).toNat:Nat):Int)=_
 rw[fg (BitVec.isLt _),BitVec.toNat_xor];rfl
theorem mV (a b:Int):uns (ior .i64 a b)=uns a|||uns b:=by
 unfold ior
 rw[b8]
 show uns (((BitVec.ofInt 64 a|||BitVec.ofInt 64 b).toNat:Nat):Int)=_
 rw[fg (BitVec.isLt _),BitVec.toNat_or];rfl
theorem zE (a b:Int)(k:Nat):l7 (cz .i64 a b) k=(l7 a k&&l7 b k):=by rw[jd,jd,jd,qO,Nat.testBit_and]
theorem qw (a b:Int)(k:Nat):l7 (rz .i64 a b) k=(l7 a k ^^l7 b k):=by rw[jd,jd,jd,qP,Nat.testBit_xor]
theorem j6 {a b:Int}(ha:I64 a)(hb:I64 b)(h:uns a=uns b):a=b:=by
 unfold I64 at*
 have h1:=bt a
 have h2:=bt b
 rw[h]at h1
 omega
theorem Gb (v:Int):cz .i64 v 1=v%2:=oG v 1 (by decide)
theorem EA {v:Int}(k:Nat)(hk:k<=63):eqI (cz .i64 (cu .i64 v (k:Int)) 1) 1=l7 v k:=by
 rw[Gb]
 unfold cu l7 eqI
 rw[Int.toNat_natCast,show min k IntKind.i64.bits=k by simp[IntKind.bits];omega]
 have hp:(0:Int)<2^k:=Int.pow_pos (by decide)
 rw[Int.fdiv_eq_ediv_of_nonneg _ (Int.le_of_lt hp)]
 have e:v/2^k%2=v%2^64/2^k%2:=by
  have h64:(2:Int)^k*2^(64-k)=2^64:=by rw[<-Int.pow_add];congr 1;omega
  have h2:(2:Int)^(64-k)=2*2^(63-k):=by rw[show 64-k=(63-k)+1 by omega,Int.pow_succ,Int.mul_comm]
  have hd:v=v%2^64+2^k*(2*2^(63-k)*(v/2^64)):=by
   have:=(Int.emod_add_mul_ediv v (2^64)).symm
   rw[<-Int.mul_assoc,<-h2,h64];exact this
  generalize v%2^64=r at hd|-
  generalize v/2^64=s at hd
  rw[hd,Int.add_mul_ediv_left _ _ (Int.ne_of_gt hp),Int.mul_assoc,Int.add_mul_emod_self_left]
 rw[e]
theorem ss {v:Int}(n:Nat)(hn:1<=n)(hn8:n<=8):dJ ((v,(n:Int),()),())=some (l7 v (8*n-1),()):=by
 unfold dJ
 dsimp only
 rw[cX,bn,ae (fu)]
 have e:8*(n:Int)-1=((8*n-1:Nat):Int):=by omega
 rw[e,EA _ (by omega)]
theorem iG (b:Bool)(k:Int):bv ((b,k,()),())=some (if b=true then k else 0,()):=by
 unfold bv;cases b<;>rfl
def parL:List Bool:=(List.range 256).map fun u=>(u%2+u/2%2+u/4%2+u/8%2+u/16%2+u/32%2+u/64%2+u/128%2)%2==0
def G5 (v:Int):Bool:=parL.getD (uns v%256) false
def xA (n:Nat)(v:Int):Int:=ior .i64 (ior .i64 (if l7 v (8*n-1)=true then 128 else 0) (if bV v n=0 then 64 else 0)) (if G5 v=true then 4 else 0)
def onesB (u:Nat):Bool:=match cZ (((u:Int),()),())with
 |some x=>decide ((fw x.1 2=0)=(parL.getD u false=true))
 |none=>false
theorem GJ:∀u:Nat,u<256->onesB u=true:=by decide +kernel
theorem wrapU8 (v:Int):aj .u8 v=((uns v%256:Nat):Int):=by
 unfold aj uns
 rw[vH];omega
theorem jp {v:Int}(n:Nat)(hn:cl (n:Int)=true):cf (((n:Int),v,()),())=some (xA n v,()):=by
 obtain⟨h1,h8⟩:1<=n/\n<=8:=by rcases uM hn with h|h|h|h<;>omega
 unfold cf
 dsimp only
 rw[ss n h1 h8,aa]
 dsimp only
 rw[iG,aa,bQ v n hn,aa]
 dsimp only
 rw[iG,aa,wrapU8]
 have hu:uns v%256<256:=Nat.mod_lt _ (by decide)
 have ho:=GJ (uns v%256) hu
 unfold onesB at ho
 cases hx:cZ ((((uns v%256:Nat):Int),()),())with
 |none=>rw[hx]at ho;cases ho
 |some x=>
  rw[hx]at ho
  have ho:=of_decide_eq_true ho
  rw[aa,iG,aa]
  have e:eqI (fw x.1 2) 0=G5 v:=by
   rw[Bool.eq_iff_iff,nH,ho];rfl
  rw[e]
  unfold xA
  simp only[nH]
def cg (v:Int)(n:Nat):Nat:=uns v%2^(8*n)
def nF (u n:Nat):Int:=IntKind.wrap .i64 ((u%2^(8*n):Nat):Int)
def sumV (n:Nat)(a b:Int)(c:Nat):Int:=nF (cg a n+cg b n+c) n
def sumC (n:Nat)(a b:Int)(c:Nat):Bool:=decide ((cg a n+cg b n+c)/2^(8*n)=1)
def sumI (n:Nat)(a b:Int)(c:Nat):Bool:=decide ((cg a n%2^(8*n-1)+cg b n%2^(8*n-1)+c)/2^(8*n-1)=1)
def Ht (n:Nat)(a b:Int)(c:Nat):Int:=nF (cg a n+2^(8*n)-cg b n-c) n
def subC (n:Nat)(a b:Int)(c:Nat):Bool:=decide (cg a n<cg b n+c)
def EN (n:Nat)(a b:Int)(c:Nat):Bool:=decide (cg a n%2^(8*n-1)<cg b n%2^(8*n-1)+c)
def addF (n:Nat)(v:Int)(c i:Bool):Int:=ior .i64 (ior .i64 (xA n v) (if c=true then 1 else 0)) (if(c != i)=true then 2048 else 0)
def vJ (n:Nat)(a b:Int)(c:Nat):Int×Int:=(sumV n a b c,addF n (sumV n a b c) (sumC n a b c) (sumI n a b c))
def tV (n:Nat)(a b:Int)(c:Nat):Int×Int:=(Ht n a b c,addF n (Ht n a b c) (subC n a b c) (EN n a b c))
def pA (v:Int)(n:Nat):Prop:=bV v n=v/\I64 v
theorem ji {v:Int}(hv:I64 v){n:Nat}(hn:cl (n:Int)=true):bV v n=nF (cg v n) n:=by
 unfold nF cg
 rw[Nat.mod_mod]
 have h1:=bw hv n hn
 obtain⟨h1',h8⟩:1<=n/\n<=8:=by rcases uM hn with h|h|h|h<;>omega
 rw[pX v n h1' h8]at h1
 injection h1 with h1
 injection h1 with h1 _
 exact h1.symm
theorem eI {v:Int}:aj .u64 v=((uns v:Nat):Int):=by unfold aj;rw[fh];exact(bt v).symm
theorem DP {v:Int}{n:Nat}(hn:cl (n:Int)=true)(h:pA v n):uns v=cg v n:=by
 obtain⟨h1,h2⟩:=h
 unfold I64 at h2
 unfold cg
 unfold bV at h1
 have:=eJ v
 rcases uM hn with g|g|g|g
 ·have:n=1:=by omega
  subst this
  rw[iD]at h1
  rw[show(2:Int)^(8*1)=256 from rfl]at h1
  rw[show(2:Nat)^(8*1)=256 from rfl]
  unfold uns;omega
 ·have:n=2:=by omega
  subst this
  rw[iD]at h1
  rw[show(2:Int)^(8*2)=65536 from rfl]at h1
  rw[show(2:Nat)^(8*2)=65536 from rfl]
  unfold uns;omega
 ·have:n=4:=by omega
  subst this
  rw[iD]at h1
  rw[show(2:Int)^(8*4)=4294967296 from rfl]at h1
  rw[show(2:Nat)^(8*4)=4294967296 from rfl]
  unfold uns;omega
 ·have:n=8:=by omega
  subst this
  rw[show 8*8=64 from rfl]
  omega
theorem gO (v:Int)(n:Nat):cg v n<2^(8*n):=Nat.mod_lt _ (Nat.two_pow_pos _)
theorem lk (u n:Nat):I64 (nF u n):=au _
theorem nA (u n:Nat)(hn:n<=8):uns (nF u n)=u%2^(8*n):=by
 unfold nF
 rw[b8]
 have h1:u%2^(8*n)<2^(8*n):=Nat.mod_lt _ (Nat.two_pow_pos _)
 have h2:(2:Nat)^(8*n)<=2^64:=Nat.pow_le_pow_right (by decide) (by omega)
 exact fg (by omega)
theorem xN {n:Nat}(hn:cl (n:Int)=true):n=1\/n=2\/n=4\/n=8:=by rcases uM hn with h|h|h|h<;>omega
theorem dL {n:Nat}(hn:cl (n:Int)=true):1<=n/\n<=8:=by rcases xN hn with h|h|h|h<;>omega
theorem vU (u n k:Nat)(hn:n<=8)(hk:k<8*n):l7 (nF u n) k=decide (u/2^k%2=1):=by
 rw[jd,nA u n hn,Nat.testBit_mod_two_pow,decide_eq_true hk,Bool.true_and,Nat.testBit_eq_decide_div_mod_eq]
theorem kr {v:Int}{n k:Nat}(hk:k<8*n):l7 v k=decide (cg v n/2^k%2=1):=by
 unfold cg
 rw[jd,<-Nat.testBit_eq_decide_div_mod_eq,Nat.testBit_mod_two_pow,decide_eq_true hk,Bool.true_and]
theorem ovf (A B C m:Nat)(hm:1<=m)(hA:A<2^m)(hB:B<2^m)(hC:C<=1):
  ((decide (A/2^(m-1)%2=1)^^decide ((A+B+C)/2^(m-1)%2=1))&&(decide (B/2^(m-1)%2=1)^^decide ((A+B+C)/2^(m-1)%2=1)))=
  (decide ((A+B+C)/2^m=1) != decide ((A%2^(m-1)+B%2^(m-1)+C)/2^(m-1)=1)):=by
 obtain⟨k,rfl⟩:∃k,m=k+1:=⟨m-1,by omega⟩
 rw[show k+1-1=k by omega]
 have hp:0<2^k:=Nat.two_pow_pos k
 rw[Nat.pow_succ]at*
 generalize 2^k=P at*
 have a1:=Nat.div_add_mod A P
 have b1:=Nat.div_add_mod B P
 have a2:A/P<2:=by rw[Nat.div_lt_iff_lt_mul hp];omega
 have b2:B/P<2:=by rw[Nat.div_lt_iff_lt_mul hp];omega
 have a3:=Nat.mod_lt A hp
 have b3:=Nat.mod_lt B hp
 generalize A%P=x at*
 generalize B%P=y at*
 have hS:(A+B+C)/P=A/P+B/P+(x+y+C)/P:=by
  have e:A+B+C=(x+y+C)+P*(A/P+B/P):=by rw[Nat.mul_add];omega
  rw[e,Nat.add_mul_div_left _ _ hp];omega
 have hS2:(A+B+C)/(P*2)=(A/P+B/P+(x+y+C)/P)/2:=by rw[<-Nat.div_div_eq_div_mul,hS]
 have h3:(x+y+C)/P<2:=by rw[Nat.div_lt_iff_lt_mul hp];omega
 rw[hS,hS2]
 generalize (x+y+C)/P=z at*
 generalize A/P=p at*
 generalize B/P=q at*
 have hp':p=0\/p=1:=by omega
 have hq':q=0\/q=1:=by omega
 have hz':z=0\/z=1:=by omega
 rcases hp' with rfl|rfl<;>rcases hq' with rfl|rfl<;>rcases hz' with rfl|rfl<;>decide
theorem qx {c:Nat}(hc:c<=1):Ce (aj .u64 (c:Int))=true/\aj .u64 (c:Int)=c:=by
 have:aj .u64 (c:Int)=c:=cJ
 rw[this]
 exact⟨dT,rfl⟩
theorem vD (v:Int):vC (aj .u64 v)=true:=by
 rw[eI]
 have:=eJ v
 exact dT
theorem ww {n:Nat}(hn:cl (n:Int)=true)(u:Nat):bV (aj .i64 ((u%18446744073709551616:Nat):Int)) n=nF u n:=by
 obtain⟨h1,h8⟩:=dL hn
 have hI:I64 (aj .i64 ((u%18446744073709551616:Nat):Int)):=au _
 rw[ji hI hn]
 unfold cg
 have:uns (aj .i64 ((u%18446744073709551616:Nat):Int))=u%18446744073709551616:=by
  unfold aj;rw[b8];exact fg (Nat.mod_lt _ (by decide))
 rw[this]
 unfold nF
 rw[Nat.mod_mod,Nat.mod_mod_of_dvd]
 exact⟨2^(64-8*n),by rw[<-Nat.pow_add,show 8*n+(64-8*n)=64 by omega]⟩
theorem EP {a b:Int}{n c:Nat}(hn:cl (n:Int)=true)(ha:pA a n)(hb:pA b n)(hc:c<=1):
  iI (((n:Int),a,b,(c:Int),()),())=some (((vJ n a b c).1,(vJ n a b c).2,()),()):=by
 obtain⟨h1,h8⟩:=dL hn
 have ea:=DP hn ha
 have eb:=DP hn hb
 have la:=gO a n
 have lb:=gO b n
 unfold iI
 dsimp only
 rw[vD,vD,(qx hc).1,(qx hc).2,aE,aE,aE,eI,eI,ea,eb]
 have eS:qQ ((cg a n:Nat):Int) ((cg b n:Nat):Int) (c:Int)=(((cg a n+cg b n+c)%18446744073709551616:Nat):Int):=by unfold qQ;omega
 have eC:vM ((cg a n:Nat):Int) ((cg b n:Nat):Int) (c:Int)=(((cg a n+cg b n+c)/18446744073709551616:Nat):Int):=by unfold vM;omega
 rw[eS,eC]
 refine(Ret.bnd (Q:=fun y=>y=Sum.inl (((n:Int),a,b,(((cg a n+cg b n+c)%18446744073709551616:Nat):Int),sumC n a b c,()),())) ?_ ?_).eq
 ·unfold sumC
  by_cases h:n<8
  ·rw[ae (fv),cX,ae (fu)]
   refine Ret.some ?_
   have hsz:n=1\/n=2\/n=4:=by rcases xN hn with h|h|h|h<;>omega
   have e:eqI (cz .u64 (cu .u64 (((cg a n+cg b n+c)%18446744073709551616:Nat):Int) (8*(n:Int))) 1) 1=decide ((cg a n+cg b n+c)/2^(8*n)=1):=by
    have hs:∀(x:Nat) (k:Nat),x<2^64->k<=64->cu .u64 (x:Int) (k:Int)=((x/2^k:Nat):Int):=fun x k hx hk=>by
     unfold cu
     rw[Int.toNat_natCast,show min k IntKind.u64.bits=k by simp[IntKind.bits];omega]
     rw[Int.fdiv_eq_ediv_of_nonneg _ (Int.le_of_lt (Int.pow_pos (by decide)))]
     simp
    have hand:∀x:Nat,x<2^64->cz .u64 (x:Int) 1=((x%2:Nat):Int):=fun x hx=>by
     unfold cz
     rw[fh]
     have:(BitVec.ofInt IntKind.u64.bits (x:Int)&&& BitVec.ofInt IntKind.u64.bits 1).toNat=x%2:=by
      rw[BitVec.toNat_and]
      have e1:(BitVec.ofInt IntKind.u64.bits (x:Int)).toNat=x:=by
       show(BitVec.ofInt 64 (x:Int)).toNat=x
       rw[BitVec.toNat_ofInt];omega
      rw[e1]
      show x&&& 1=_
      exact Nat.and_one_is_mod x
     rw[this];omega
    have e8:(8*(n:Int))=((8*n:Nat):Int):=by omega
    have hlt:(cg a n+cg b n+c)%18446744073709551616<2^64:=Nat.mod_lt _ (by decide)
    rw[e8,hs _ _ hlt (by omega),hand _ (Nat.lt_of_le_of_lt (Nat.div_le_self _ _) hlt)]
    unfold eqI
    rcases hsz with rfl|rfl|rfl
    ·rw[show(2:Nat)^(8*1)=256 from rfl]at*
     rw[Bool.eq_iff_iff,decide_eq_true_eq,decide_eq_true_eq];omega
    ·rw[show(2:Nat)^(8*2)=65536 from rfl]at*
     rw[Bool.eq_iff_iff,decide_eq_true_eq,decide_eq_true_eq];omega
    ·rw[show(2:Nat)^(8*4)=4294967296 from rfl]at*
     rw[Bool.eq_iff_iff,decide_eq_true_eq,decide_eq_true_eq];omega
   rw[e]
  ·have h8:n=8:=by omega
   subst h8
   rw[ag (fM)]
   refine Ret.some ?_
   have e:eqI (((cg a 8+cg b 8+c)/18446744073709551616:Nat):Int) 1=decide ((cg a 8+cg b 8+c)/2^(8*8)=1):=by
    unfold eqI
    rw[show(2:Nat)^(8*8)=18446744073709551616 from rfl,Bool.eq_iff_iff,decide_eq_true_eq,decide_eq_true_eq];omega
   rw[e]
 ·rintro _ rfl
  rw[ah]
  dsimp only
  rw[bQ _ n hn,ww hn,aa]
  dsimp only
  rw[jp n hn,aa,iG,aa]
  dsimp only
  rw[ss n h1 h8,aa,iG,aa]
  refine Ret.some ?_
  have ho:l7 (cz .i64 (rz .i64 a (nF (cg a n+cg b n+c) n)) (rz .i64 b (nF (cg a n+cg b n+c) n))) (8*n-1)=(sumC n a b c != sumI n a b c):=by
   rw[zE,qw,qw,vU _ n _ h8 (by omega),kr (v:=a) (n:=n) (by omega),kr (v:=b) (n:=n) (by omega)]
   exact ovf _ _ _ _ (by omega) la lb hc
  dsimp only
  rw[ho]
  rfl
theorem ovfS (A B C m:Nat)(hm:1<=m)(hA:A<2^m)(hB:B<2^m)(hC:C<=1):
  ((decide (A/2^(m-1)%2=1)^^decide (B/2^(m-1)%2=1))&&(decide (A/2^(m-1)%2=1)^^decide ((A+2^m-B-C)/2^(m-1)%2=1)))=
  (decide (A<B+C) != decide (A%2^(m-1)<B%2^(m-1)+C)):=by
 obtain⟨k,rfl⟩:∃k,m=k+1:=⟨m-1,by omega⟩
 rw[show k+1-1=k by omega]
 have hp:0<2^k:=Nat.two_pow_pos k
 rw[Nat.pow_succ]at*
 generalize 2^k=P at*
 have a1:=Nat.div_add_mod A P
 have b1:=Nat.div_add_mod B P
 have a2:A/P<2:=by rw[Nat.div_lt_iff_lt_mul hp];omega
 have b2:B/P<2:=by rw[Nat.div_lt_iff_lt_mul hp];omega
 have a3:=Nat.mod_lt A hp
 have b3:=Nat.mod_lt B hp
 generalize A%P=x at*
 generalize B%P=y at*
 have hd:∀z k:Nat,k*P<=z->z<(k+1)*P->z/P=k:=fun z k h1 h2=>Nat.div_eq_of_lt_le h1 h2
 generalize A/P=p at*
 generalize B/P=q at*
 have hp':p=0\/p=1:=by omega
 have hq':q=0\/q=1:=by omega
 have key:∀k:Nat,(A+P*2-B-C)/P=k->∀b1 b2:Bool,decide (A<B+C)=b1->decide (x<y+C)=b2->
   ((decide (p%2=1)^^decide (q%2=1))&&(decide (p%2=1)^^decide (k%2=1)))=(b1 != b2)->
   ((decide (p%2=1)^^decide (q%2=1))&&(decide (p%2=1)^^decide ((A+P*2-B-C)/P%2=1)))=(decide (A<B+C) != decide (x<y+C)):=fun k e b1 b2 e1 e2 h=>by rw[e,e1,e2];exact h
 rcases hp' with rfl|rfl<;>rcases hq' with rfl|rfl<;>by_cases hb:x<y+C
 ·exact key 1 (hd _ _ (by omega) (by omega)) true true (dT) (decide_eq_true hb) (by decide)
 ·exact key 2 (hd _ _ (by omega) (by omega)) false false (dF) (decide_eq_false hb) (by decide)
 ·exact key 0 (hd _ _ (by omega) (by omega)) true true (dT) (decide_eq_true hb) (by decide)
 ·exact key 1 (hd _ _ (by omega) (by omega)) true false (dT) (decide_eq_false hb) (by decide)
 ·exact key 2 (hd _ _ (by omega) (by omega)) false true (dF) (decide_eq_true hb) (by decide)
 ·exact key 3 (hd _ _ (by omega) (by omega)) false false (dF) (decide_eq_false hb) (by decide)
 ·exact key 1 (hd _ _ (by omega) (by omega)) true true (dT) (decide_eq_true hb) (by decide)
 ·exact key 2 (hd _ _ (by omega) (by omega)) false false (dF) (decide_eq_false hb) (by decide)
theorem kw {a b:Int}{n c:Nat}(hn:cl (n:Int)=true)(ha:pA a n)(hb:pA b n)(hc:c<=1):
  bW (((n:Int),a,b,(c:Int),()),())=some (((tV n a b c).1,(tV n a b c).2,()),()):=by
 obtain⟨h1,h8⟩:=dL hn
 have ea:=DP hn ha
 have eb:=DP hn hb
 have la:=gO a n
 have lb:=gO b n
 unfold bW
 dsimp only
 rw[vD,vD,(qx hc).1,(qx hc).2,aE,aE,aE,eI,eI,ea,eb]
 have hpw:(2:Nat)^(8*n)<=18446744073709551616:=Nat.le_trans (Nat.pow_le_pow_right (by decide) (show 8*n<=64 by omega)) (by decide)
 have eS:nR ((cg a n:Nat):Int) ((cg b n:Nat):Int) (c:Int)=(((cg a n+18446744073709551616-cg b n-c)%18446744073709551616:Nat):Int):=by unfold nR;omega
 have eC:eqI (mp ((cg a n:Nat):Int) ((cg b n:Nat):Int) (c:Int)) 1=subC n a b c:=by
  unfold mp subC eqI
  rw[Bool.eq_iff_iff,decide_eq_true_eq,decide_eq_true_eq]
  split<;>omega
 have eV:nF (cg a n+18446744073709551616-cg b n-c) n=Ht n a b c:=by
  unfold Ht nF
  have:(cg a n+18446744073709551616-cg b n-c)%2^(8*n)=(cg a n+2^(8*n)-cg b n-c)%2^(8*n):=by
   have hd:(18446744073709551616:Nat)=2^(8*n)*(2^(64-8*n)-1)+2^(8*n):=by
    rw[Nat.mul_sub,<-Nat.pow_add,show 8*n+(64-8*n)=64 by omega]
    omega
   generalize 2^(8*n)=Q at*
   generalize 2^(64-8*n)-1=R at*
   have e:cg a n+18446744073709551616-cg b n-c=(cg a n+Q-cg b n-c)+Q*R:=by omega
   rw[e,Nat.add_mul_mod_self_left]
  rw[this]
 rw[eS,eC,bQ _ n hn,ww hn,eV,aa]
 dsimp only
 rw[jp n hn,aa,iG,aa]
 dsimp only
 rw[ss n h1 h8,aa,iG,aa]
 have ho:l7 (cz .i64 (rz .i64 a b) (rz .i64 a (Ht n a b c))) (8*n-1)=(subC n a b c != EN n a b c):=by
  rw[zE,qw,qw]
  unfold Ht
  rw[vU _ n _ h8 (by omega),kr (v:=a) (n:=n) (by omega),kr (v:=b) (n:=n) (by omega)]
  exact ovfS _ _ _ _ (by omega) la lb hc
 dsimp only
 rw[ho]
 rfl
def mi (op a b:Int):Int:=if op=2 then ior .i64 a b else if op=7 then rz .i64 a b else cz .i64 a b
def xS (op:Int)(n:Nat)(a b f:Int):Int×Int:=
 if op=1 then vJ n (bV a n) (bV b n) 0
 else if op=3 then vJ n (bV a n) (bV b n) (f%2).toNat
 else if op=6 then tV n (bV a n) (bV b n) 0
 else if op=4 then tV n (bV a n) (bV b n) (f%2).toNat
 else if op=8 then(bV a n,(tV n (bV a n) (bV b n) 0).2)
 else if op=10 then(bV a n,xA n (cz .i64 (bV a n) (bV b n)))
 else(mi op (bV a n) (bV b n),xA n (mi op (bV a n) (bV b n)))
theorem eM {v:Int}(hv:I64 v){n:Nat}(hn:cl (n:Int)=true):I64 (bV v n):=by
 rw[ji hv hn];exact lk _ _
theorem nk {v:Int}(hv:I64 v){n:Nat}(hn:cl (n:Int)=true):cg (bV v n) n=cg v n:=by
 rw[ji hv hn]
 unfold cg
 rw[nA _ _ (dL hn).2,Nat.mod_mod,Nat.mod_mod]
theorem mH {v:Int}(hv:I64 v){n:Nat}(hn:cl (n:Int)=true):pA (bV v n) n:=by
 refine⟨?_,eM hv hn⟩
 rw[ji (eM hv hn) hn,nk hv hn,<-ji hv hn]
theorem wm (f:Int):cz .i64 f 1=((f%2).toNat:Int):=by rw[Gb];omega
theorem alu_eq {op a b f:Int}{n:Nat}(hn:cl (n:Int)=true)(ha:I64 a)(hb:I64 b):lJ ((op,(n:Int),a,b,f,()),())=some (((xS op n a b f).1,(xS op n a b f).2,()),()):=by
 have oa:=mH ha hn
 have ob:=mH hb hn
 have s0:=EP (c:=0) hn oa ob (by decide)
 have s1:=EP (c:=(f%2).toNat) hn oa ob (by omega)
 have d0:=kw (c:=0) hn oa ob (by decide)
 have d1:=kw (c:=(f%2).toNat) hn oa ob (by omega)
 rw[show((0:Nat):Int)=0 from rfl]at s0 d0
 unfold lJ xS
 dsimp only
 rw[bQ _ n hn,bQ _ n hn,aa,aa]
 dsimp only
 rw[wm,s0,s1,d0,d1]
 by_cases h1:op=1
 ·rw[ae (be h1),if_pos h1,aa]
 rw[ag (aq h1),if_neg h1]
 by_cases h3:op=3
 ·rw[ae (be h3),if_pos h3,aa]
 rw[ag (aq h3),if_neg h3]
 by_cases h6:op=6
 ·rw[ae (be h6),if_pos h6,aa]
 rw[ag (aq h6),if_neg h6]
 by_cases h4:op=4
 ·rw[ae (be h4),if_pos h4,aa]
 rw[ag (aq h4),if_neg h4]
 by_cases h8:op=8
 ·rw[ae (be h8),if_pos h8,aa]
 rw[ag (aq h8),if_neg h8]
 unfold mi
 by_cases h2:op=2
 ·rw[ae (be h2),aa,ah,jp n hn,aa,iN,if_pos h2]
 rw[ag (aq h2)]
 by_cases h7:op=7
 ·rw[ae (be h7),aa,ah,aa,ah,jp n hn,aa,iN,if_neg h2,if_pos h7]
 rw[ag (aq h7)]
 by_cases h10:op=10
 ·rw[ae (be h10),jp n hn,aa,aa,qg,aa,qg,if_pos h10]
 rw[ag (aq h10),aa,ah,aa,ah,jp n hn,aa,if_neg h10,if_neg h2,if_neg h7]
theorem bD (n a b:Int):am ((n,a,b,()),())=some (decide (a<=n/\n<=b),()):=by
 unfold am
 simp only[qS,aa,leI,Bool.decide_and]
theorem ct:aD=am:=rfl
def regL1:List (List UInt8):=[[97,108],[99,108],[100,108],[98,108],[115,112,108],[98,112,108],[115,105,108],[100,105,108],[114,56,98],[114,57,98],[114,49,48,98],[114,49,49,98],[114,49,50,98],[114,49,51,98],[114,49,52,98],[114,49,53,98],[97,104],[99,104],[100,104],[98,104]]
def regL2:List (List UInt8):=[[97,120],[99,120],[100,120],[98,120],[115,112],[98,112],[115,105],[100,105],[114,56,119],[114,57,119],[114,49,48,119],[114,49,49,119],[114,49,50,119],[114,49,51,119],[114,49,52,119],[114,49,53,119]]
def regL4:List (List UInt8):=[[101,97,120],[101,99,120],[101,100,120],[101,98,120],[101,115,112],[101,98,112],[101,115,105],[101,100,105],[114,56,100],[114,57,100],[114,49,48,100],[114,49,49,100],[114,49,50,100],[114,49,51,100],[114,49,52,100],[114,49,53,100]]
def regL8:List (List UInt8):=[[114,97,120],[114,99,120],[114,100,120],[114,98,120],[114,115,112],[114,98,112],[114,115,105],[114,100,105],[114,56],[114,57],[114,49,48],[114,49,49],[114,49,50],[114,49,51],[114,49,52],[114,49,53]]
def regL (s:Int):List (List UInt8):=if s=1 then regL1 else if s=2 then regL2 else if s=4 then regL4 else regL8
def fq (s:Int):Prop:=s=1\/s=2\/s=4\/s=8
instance (s:Int):Decidable (fq s):=by unfold fq;infer_instance
def regP (r s:Int):Prop:=0<=r/\r<(regL s).length
instance (r s:Int):Decidable (regP r s):=by unfold regP;infer_instance
def H0 (r s:Int):List UInt8:=if regP r s then(regL s).getD r.toNat []else []
theorem zV {d:Int}(h:I64 d):jo ((d,4,()),())=some (decide (-2147483648<=d/\d<=2147483647),()):=by
 unfold I64 at h
 unfold jo bh
 have e:aT .i64 64 (bK .i64 8 4)=32:=by decide
 simp only[e]
 rw[ae (by decide),ae (by decide),aa]
 congr 2
 unfold eqI cu dD
 rw[show min (32:Int).toNat (IntKind.bits .i64)=32 from by decide,IntKind.wrap_i64,Int.fdiv_eq_ediv_of_nonneg _ (by decide)]
 rw[Bool.eq_iff_iff]
 simp only[decide_eq_true_eq]
 omega
def Ci (k r b i s d m:Int):Prop:=k=2/\r=0/\m=0/\ -1<=b/\b<=16/\ -1<=i/\i<=15/\i≠4/\(s=1\/i≠ -1/\(s=2\/s=4\/s=8))/\(b≠16\/i= -1)/\ -2147483648<=d/\d<=2147483647
instance (k r b i s d m:Int):Decidable (Ci k r b i s d m):=by unfold Ci;infer_instance
def opOK (k r b i s d m z:Int):Prop:=fq z/\
 (k=1/\b=0/\i=0/\s=0/\d=0/\m=0/\regP r z\/Ci k r b i s d m\/k=3/\r=0/\b=0/\i=0/\s=0/\d=0\/k=0/\r=0/\b=0/\i=0/\s=0/\d=0/\m=0)
instance (k r b i s d m z:Int):Decidable (opOK k r b i s d m z):=by unfold opOK;infer_instance
def ripS:List UInt8:=[114,105,112]
def p1 (b:Int):List (List UInt8):=if b=16 then [ripS]else if 0<=b then [H0 b 8]else []
def p2 (i s:Int):List (List UInt8):=if 0<=i then [H0 i 8++[42]++Go.Lib.itoa s]else []
def p3 (d:Int)(q:List (List UInt8)):List (List UInt8):=if d≠0\/q=[]then [Go.Lib.itoa d]else []
theorem HG {n:Nat}(h:n<9223372036854775808):IntKind.i64.wrap (n:Int)=n:=dC ⟨by omega,by omega⟩
theorem vP (X M:BitVec 64):X&&& ~~~M=0#64↔X&&& M=X:=by
 constructor
 ·intro h
  apply BitVec.eq_of_getLsbD_eq
  intro i hi
  have:=congrArg (fun z:BitVec 64=>z.getLsbD i) h
  simp only[BitVec.getLsbD_and,BitVec.getLsbD_not,hi,decide_true,Bool.true_and,BitVec.getLsbD_zero]at this
  rw[BitVec.getLsbD_and]
  cases h1:X.getLsbD i<;>cases h2:M.getLsbD i<;>simp_all
 ·intro h
  apply BitVec.eq_of_getLsbD_eq
  intro i hi
  have:=congrArg (fun z:BitVec 64=>z.getLsbD i) h
  simp only[BitVec.getLsbD_and]at this
  simp only[BitVec.getLsbD_and,BitVec.getLsbD_not,hi,decide_true,Bool.true_and,BitVec.getLsbD_zero]
  cases h1:X.getLsbD i<;>cases h2:M.getLsbD i<;>simp_all
def bS (x:Int):Bool:=eqI (gP .i64 x 2245) 0
theorem iandn64 (x:Int):gP .i64 x 2245=IntKind.i64.wrap ((BitVec.ofInt 64 x&&& ~~~2245#64).toNat:Int):=rfl
theorem iand64 (x:Int):cz .i64 x 2245=IntKind.i64.wrap ((BitVec.ofInt 64 x&&& 2245#64).toNat:Int):=rfl
theorem zW {x:Int}(h:I64 x):(decide (0<=x)&&eqI (cz .i64 x 2245) x)=bS x:=by
 unfold I64 at h
 unfold bS eqI
 rw[iandn64,iand64]
 generalize hX:BitVec.ofInt 64 x=X
 have hXi:X.toInt=x:=by rw[<-hX,BitVec.toInt_ofInt];rw[Int.bmod_def];split<;>omega
 have hle:(X&&& 2245#64).toNat<=2245:=by rw[BitVec.toNat_and];exact Nat.and_le_right
 have hw1:IntKind.i64.wrap ((X&&& 2245#64).toNat:Int)=(X&&& 2245#64).toNat:=HG (by omega)
 have hz:IntKind.i64.wrap ((X&&& ~~~2245#64).toNat:Int)=0↔X&&& ~~~2245#64=0#64:=by
  have hlt:(X&&& ~~~2245#64).toNat<2^64:=BitVec.isLt _
  rw[IntKind.wrap_i64]
  constructor
  ·intro e
   apply BitVec.eq_of_toNat_eq
   rw[BitVec.toNat_zero]
   omega
  ·intro e;rw[e,BitVec.toNat_zero];decide
 rw[Bool.eq_iff_iff]
 simp only[Bool.and_eq_true,decide_eq_true_eq]
 rw[hw1,hz,vP]
 have hXn:(X.toNat:Int)=x\/(X.toNat:Int)=x+18446744073709551616:=by
  rw[BitVec.toInt_eq_toNat_cond]at hXi
  split at hXi<;>omega
 constructor
 ·rintro⟨h0,e⟩
  apply BitVec.eq_of_toNat_eq
  have:=X.isLt
  omega
 ·intro e
  rw[e]at hle|-
  omega
theorem Fz {c:List Int}{p f:Int}:jw (((c,p,f,()),()),())=some (bS f,()):=by
 unfold jw iO
 rfl
theorem Ep {c:List Int}{p f:Int}(h:I64 f):jG (((c,p,f,()),()),())=some (bS f,()):=by
 unfold jG i7
 dsimp only
 rw[qS,aa]
 have:=zW h
 unfold leI
 rw[this]
 rfl
theorem Da {f:Int}(hI:I64 f)(h:bS f=true):∃u:Nat,u<2246/\f=u/\u&&& 2245=u:=by
 rw[<-zW hI,Bool.and_eq_true,decide_eq_true_eq,nH]at h
 obtain⟨h0,h1⟩:=h
 obtain⟨u,rfl⟩:=Int.eq_ofNat_of_zero_le h0
 have e:=qO (u:Int) 2245
 rw[h1,fg (by unfold I64 at hI;omega),show uns 2245=2245 from rfl]at e
 refine⟨u,?_,rfl,e.symm⟩
 have:u&&& 2245<=2245:=Nat.and_le_right
 omega
def flK (u:Nat):Bool:=u&&& 2245 != u||(gP .i64 (u:Int) 2049==cz .i64 (u:Int) 196)
theorem flK_all:∀u:Nat,u<2246->flK u=true:=by decide +kernel
theorem C9 {f:Int}(hI:I64 f)(h:bS f=true):gP .i64 f 2049=cz .i64 f 196:=by
 obtain⟨u,hu,rfl,hm⟩:=Da hI h
 have:=flK_all u hu
 unfold flK at this
 rw[hm]at this
 simpa using this
def mkF (s z p:Bool):Int:=ior .i64 (ior .i64 (if s=true then 128 else 0) (if z=true then 64 else 0)) (if p=true then 4 else 0)
def mkG (k:Int)(c o:Bool):Int:=ior .i64 (ior .i64 k (if c=true then 1 else 0)) (if o=true then 2048 else 0)
theorem vB (n:Nat)(v:Int):xA n v=mkF (l7 v (8*n-1)) (decide (bV v n=0)) (G5 v):=by
 unfold xA mkF;simp only[decide_eq_true_eq]
theorem t7 (n:Nat)(v:Int)(c i:Bool):addF n v c i=mkG (mkF (l7 v (8*n-1)) (decide (bV v n=0)) (G5 v)) c (c != i):=by
 unfold addF mkG;rw[vB]
theorem Gw (s z p:Bool):gP .i64 (mkF s z p) 2049=mkF s z p:=by cases s<;>cases z<;>cases p<;>decide
theorem mkF_ok (s z p:Bool):bS (mkF s z p)=true/\I64 (mkF s z p):=by cases s<;>cases z<;>cases p<;>decide
theorem DU (s z p c o:Bool):bS (mkG (mkF s z p) c o)=true/\I64 (mkG (mkF s z p) c o):=by cases s<;>cases z<;>cases p<;>cases c<;>cases o<;>decide
def flL (u:Nat)(c o:Bool):Bool:=u&&& 2245 != u||(bS (mkG (cz .i64 (u:Int) 196) c o)&&decide (I64 (mkG (cz .i64 (u:Int) 196) c o)))
theorem flL_all:∀u:Nat,u<2246->(flL u false false&&flL u false true&&flL u true false&&flL u true true)=true:=by decide +kernel
theorem keep_ok {f:Int}(hI:I64 f)(h:bS f=true)(c o:Bool):bS (mkG (cz .i64 f 196) c o)=true/\I64 (mkG (cz .i64 f 196) c o):=by
 obtain⟨u,hu,rfl,hm⟩:=Da hI h
 have:=flL_all u hu
 simp only[Bool.and_eq_true]at this
 obtain⟨⟨⟨h1,h2⟩,h3⟩,h4⟩:=this
 unfold flL at h1 h2 h3 h4
 rw[hm]at h1 h2 h3 h4
 simp only[bne_self_eq_false,Bool.false_or,Bool.and_eq_true,decide_eq_true_eq]at h1 h2 h3 h4
 cases c<;>cases o
 ·exact h1
 ·exact h2
 ·exact h3
 ·exact h4
def oneF (d f:Int):Int:=ior .i64 (gP .i64 d 1) (cz .i64 f 1)
theorem D6 (s z p c o:Bool)(f:Int):bS (oneF (mkG (mkF s z p) c o) f)=true/\I64 (oneF (mkG (mkF s z p) c o) f):=by
 unfold oneF
 rw[Gb]
 have:f%2=0\/f%2=1:=by omega
 rcases this with h|h<;>rw[h]<;>cases s<;>cases z<;>cases p<;>cases c<;>cases o<;>decide
theorem ly (a b:Int):I64 (ior .i64 a b):=au _
theorem FB (a b:Int):I64 (cz .i64 a b):=au _
theorem ou (a b:Int):I64 (rz .i64 a b):=au _
theorem zn (n:Nat)(a b:Int)(c:Nat):I64 (vJ n a b c).1/\bS (vJ n a b c).2=true/\I64 (vJ n a b c).2:=by
 unfold vJ;dsimp only;rw[t7];exact⟨lk _ _,DU ..⟩
theorem sq (n:Nat)(a b:Int)(c:Nat):I64 (tV n a b c).1/\bS (tV n a b c).2=true/\I64 (tV n a b c).2:=by
 unfold tV;dsimp only;rw[t7];exact⟨lk _ _,DU ..⟩
theorem EW (n:Nat)(v:Int):bS (xA n v)=true/\I64 (xA n v):=by rw[vB];exact mkF_ok ..
theorem Cr {op a b f:Int}{n:Nat}(hn:cl (n:Int)=true)(ha:I64 a):I64 (xS op n a b f).1/\bS (xS op n a b f).2=true/\I64 (xS op n a b f).2:=by
 unfold xS
 have hl:=eM ha hn
 have hw:I64 (mi op (bV a n) (bV b n)):=by
  unfold mi
  split
  ·exact ly ..
  ·split
   ·exact ou ..
   ·exact FB ..
 split
 ·exact zn ..
 split
 ·exact zn ..
 split
 ·exact sq ..
 split
 ·exact sq ..
 split
 ·exact⟨hl,(sq ..).2⟩
 split
 ·exact⟨hl,EW ..⟩
 ·exact⟨hw,EW ..⟩
def yY (op:Int)(n:Nat)(a f:Int):Int×Int:=
 if op=11 then(bV (xK .i64 (bV a n)) n,f)
 else if op=12 then tV n 0 (bV a n) 0
 else if op=19 then((tV n (bV a n) 1 0).1,oneF (tV n (bV a n) 1 0).2 f)
 else((vJ n (bV a n) 1 0).1,oneF (vJ n (bV a n) 1 0).2 f)
theorem yK {n:Nat}(hn:cl (n:Int)=true):pA 1 n:=by
 rcases xN hn with rfl|rfl|rfl|rfl<;>exact⟨rfl,by decide⟩
theorem DN {n:Nat}(hn:cl (n:Int)=true):pA 0 n:=by
 rcases xN hn with rfl|rfl|rfl|rfl<;>exact⟨rfl,by decide⟩
theorem one_eq {op a f:Int}{n:Nat}(hn:cl (n:Int)=true)(ha:I64 a):lK ((op,(n:Int),a,f,()),())=some (((yY op n a f).1,(yY op n a f).2,()),()):=by
 have oa:=mH ha hn
 have s1:=EP (c:=0) hn oa (yK hn) (by decide)
 have d1:=kw (c:=0) hn oa (yK hn) (by decide)
 have d0:=kw (c:=0) hn (DN hn) oa (by decide)
 rw[show((0:Nat):Int)=0 from rfl]at s1 d0 d1
 unfold lK yY
 dsimp only
 rw[bQ _ n hn,aa]
 dsimp only
 rw[s1,d1,d0]
 by_cases h11:op=11
 ·rw[ae (be h11),if_pos h11,bQ _ n hn,aa]
 rw[ag (aq h11),if_neg h11]
 by_cases h12:op=12
 ·rw[ae (be h12),if_pos h12,aa]
 rw[ag (aq h12),if_neg h12,aa]
 by_cases h19:op=19
 ·rw[ae (be h19),if_pos h19,aa,aa,ah]
  rfl
 rw[ag (aq h19),if_neg h19,aa,ah]
 rfl
theorem D7 {op a f:Int}{n:Nat}(hn:cl (n:Int)=true)(hI:I64 f)(hf:bS f=true):I64 (yY op n a f).1/\bS (yY op n a f).2=true/\I64 (yY op n a f).2:=by
 unfold yY
 split
 ·exact⟨eM (ou _ _) hn,hf,hI⟩
 split
 ·exact sq ..
 split
 ·refine⟨(sq ..).1,?_⟩
  unfold tV;dsimp only;rw[t7];exact D6 ..
 ·refine⟨(zn ..).1,?_⟩
  unfold vJ;dsimp only;rw[t7];exact D6 ..
def wT (op:Int)(m u:Nat):Nat:=
 if op=20 then(2*u)%2^m+u/2^(m-1)
 else if op=22 then(2*u)%2^m
 else if op=23 then u/2
 else if op=24 then u/2+(u/2^(m-1))*2^(m-1)
 else u/2+(u%2)*2^(m-1)
def jP (op:Int)(n:Nat)(a:Int):Int:=nF (wT op (8*n) (cg a n)) n
def yW (op:Int)(n:Nat)(a:Int):Bool:=if op=20\/op=22 then l7 a (8*n-1)else l7 a 0
def yX (op:Int)(n:Nat)(a:Int):Bool:=
 if op=20\/op=22 then l7 (jP op n a) (8*n-1) != l7 a (8*n-1)
 else if op=23 then l7 a (8*n-1)else if op=24 then false else l7 (jP op n a) (8*n-1) != l7 (jP op n a) (8*n-2)
def Bv (op:Int)(n:Nat)(a f:Int):Int:=if op=20\/op=21 then cz .i64 f 196 else xA n (jP op n a)
def rR (op:Int)(n:Nat)(a f:Int):Int×Int:=(jP op n a,mkG (Bv op n a f) (yW op n a) (yX op n a))
theorem Ak {op:Int}{m u:Nat}(hm:1<=m)(hu:u<2^m):wT op m u<2^m:=by
 obtain⟨k,rfl⟩:∃k,m=k+1:=⟨m-1,by omega⟩
 unfold wT
 rw[show k+1-1=k by omega]
 rw[Nat.pow_succ]at*
 have hp:0<2^k:=Nat.two_pow_pos k
 generalize 2^k=P at*
 have h2:u/P<2:=by rw[Nat.div_lt_iff_lt_mul hp];omega
 have h3:(2*u)%(P*2)=2*(u%P):=by rw[Nat.mul_comm P 2,Nat.mul_mod_mul_left]
 have h4:=Nat.mod_lt u hp
 have h5:u/P=0\/u/P=1:=by generalize u/P=q at *;omega
 split
 ·rw[h3];generalize u/P=q at *;generalize u%P=r at *;omega
 split
 ·rw[h3];generalize u%P=r at *;omega
 split
 ·omega
 split
 ·rcases h5 with h|h<;>rw[h]
  ·omega
  ·omega
 ·have:u%2=0\/u%2=1:=by omega
  rcases this with h|h<;>rw[h]<;>omega
theorem kZ (op:Int){n:Nat}(hn:cl (n:Int)=true)(a:Int):uns (jP op n a)=wT op (8*n) (cg a n):=by
 obtain⟨h1,h8⟩:=dL hn
 unfold jP
 rw[nA _ _ h8,Nat.mod_eq_of_lt (Ak (by omega) (gO a n))]
theorem gC (op:Int)(n:Nat)(a:Int):I64 (jP op n a):=lk _ _
theorem E0 (a:Int):uns (dD .i64 a 1)=(2*uns a)%2^64:=by
 unfold dD
 rw[b8]
 show uns (a*2^1)=_
 unfold uns;omega
theorem HD (b:Bool){k:Nat}(hk:k<2^64):uns (if b=true then(k:Int)else 0)=if b=true then k else 0:=by
 cases b
 ·rfl
 ·exact fg hk
theorem H6 {x:Nat}(h:x%2=0)(b:Bool):x|||(if b=true then 1 else 0)=x+(if b=true then 1 else 0):=by
 obtain⟨y,rfl⟩:∃y,x=2^1*y:=⟨x/2,by omega⟩
 cases b
 ·simp
 ·rw[if_pos rfl,<-Nat.two_pow_add_eq_or_of_lt (i:=1) (by decide) y]
theorem H7 {x k:Nat}(h:x<2^k)(b:Bool):x|||(if b=true then 2^k else 0)=x+(if b=true then 1 else 0)*2^k:=by
 cases b
 ·simp
 ·rw[if_pos rfl,if_pos rfl,Nat.or_comm]
  have:=Nat.two_pow_add_eq_or_of_lt h 1
  rw[Nat.mul_one]at this
  rw[<-this];omega
theorem FM (a:Int)(n:Nat)(hn:1<=n):cg a n%2=if l7 a 0=true then 1 else 0:=by
 rw[kr (n:=n) (k:=0) (by omega),Nat.pow_zero,Nat.div_one]
 by_cases h:cg a n%2=1
 ·rw[decide_eq_true h,h];rfl
 ·rw[decide_eq_false h,iD];omega
theorem zF (a:Int)(n:Nat)(hn:1<=n):cg a n/2^(8*n-1)=if l7 a (8*n-1)=true then 1 else 0:=by
 rw[kr (n:=n) (k:=8*n-1) (by omega)]
 have h2:cg a n/2^(8*n-1)<2:=by
  rw[Nat.div_lt_iff_lt_mul (Nat.two_pow_pos _),Nat.mul_comm,<-Nat.pow_succ,show(8*n-1).succ=8*n by omega]
  exact gO a n
 generalize cg a n/2^(8*n-1)=q at*
 have:q=0\/q=1:=by omega
 rcases this with rfl|rfl<;>rfl
theorem DO (a:Int):eqI (cz .i64 a 1) 1=l7 a 0:=by
 rw[Gb];unfold eqI l7
 rw[Bool.eq_iff_iff,decide_eq_true_eq,decide_eq_true_eq];omega
theorem Ey {v:Int}:aj .i64 (cu .u64 (aj .u64 v) 1)=nF (uns v/2) 8:=by
 rw[eI]
 unfold cu aj nF
 show IntKind.wrap .i64 (Int.fdiv (uns v:Int) (2^1))=_
 rw[Int.fdiv_eq_ediv_of_nonneg _ (by decide)]
 have:=eJ v
 have e:((uns v:Nat):Int)/2^1=((uns v/2%2^(8*8):Nat):Int):=by
  rw[Nat.mod_eq_of_lt (by omega)];omega
 rw[e]
theorem Dm {n:Nat}(hn:cl (n:Int)=true):∃h:Int,dD .i64 1 (8*(n:Int)-1)=h/\uns h=2^(8*n-1)/\∀b:Bool,uns (if b=true then h else 0)=if b=true then 2^(8*n-1)else 0:=by
 refine⟨_,rfl,?_,fun b=>?_⟩
 ·rcases xN hn with rfl|rfl|rfl|rfl<;>decide
 ·rcases xN hn with rfl|rfl|rfl|rfl<;>cases b<;>decide
theorem neB (a b:Bool):aQ (eqB a b)=(a != b):=by cases a<;>cases b<;>rfl
theorem cB {v:Int}(hv:I64 v){n:Nat}(hn:cl (n:Int)=true):uns (bV v n)=cg v n:=by
 rw[ji hv hn,nA _ _ (dL hn).2];exact Nat.mod_eq_of_lt (gO v n)
theorem wK {a:Int}{n:Nat}(hn:cl (n:Int)=true)(ea:uns a=cg a n):cg (dD .i64 a 1) n=2*cg a n%2^(8*n):=by
 have h8:=(dL hn).2
 rw[<-ea]
 unfold cg
 rw[E0,Nat.mod_mod_of_dvd]
 exact⟨2^(64-8*n),by rw[<-Nat.pow_add,show 8*n+(64-8*n)=64 by omega]⟩
theorem Di {u n:Nat}(hn:1<=n)(hu:u<2^(8*n)):u/2<2^(8*n-1):=by
 have:(2:Nat)^(8*n)=2^(8*n-1)*2:=by rw[<-Nat.pow_succ,show(8*n-1).succ=8*n by omega]
 omega
theorem F1 {u n:Nat}(hn:1<=n):2*u%2^(8*n)%2=0:=by
 have:(2:Nat)^(8*n)=2^(8*n-1)*2:=by rw[<-Nat.pow_succ,show(8*n-1).succ=8*n by omega]
 have h:=Nat.mul_mod_mul_left 2 u (2^(8*n-1))
 rw[this,Nat.mul_comm _ 2,h];omega
theorem xu {op a f:Int}{n:Nat}(hop:20<=op/\op<=24)(hn:cl (n:Int)=true)(ha:pA a n)(hI:I64 f)(hf:bS f=true):
  fC ((op,(n:Int),a,f,()),())=some (((rR op n a f).1,(rR op n a f).2,()),()):=by
 obtain⟨h1,h8⟩:=dL hn
 have ea:=DP hn ha
 unfold fC
 dsimp only[p5,p6,p7,p8,p9,p10]
 rw[ss n h1 h8,aa]
 dsimp only
 rw[cX,bn,ae (fu),DO]
 obtain⟨H,hH,hHu,hHb⟩:=Dm hn
 rw[hH]
 refine(Ret.bnd (Q:=fun y=>y=Sum.inl ((op,(n:Int),a,f,l7 a (8*n-1),l7 a 0,H,l7 a 0,false,op,eqI op 22||eqI op 20,()),())) ?_ ?_).eq
 ·cases eqI op 22
  ·exact Ret.some rfl
  ·exact Ret.some rfl
 rintro _ rfl
 rw[ah]
 dsimp only
 have hl:=gO a n
 have hlz:I64 (dD .i64 a 1):=au _
 have u8:uns (nF (uns a/2) 8)=cg a n/2:=by
  rw[nA _ _ (by decide),ea]
  have:=eJ a
  rw[ea]at this
  exact Nat.mod_eq_of_lt (by omega)
 refine Ret.bnd (Q:=fun y=>y=Sum.inl ((op,(n:Int),f,jP op n a,yW op n a,yX op n a,()),())) ?_ ?_
 ·have hcase:op=20\/op=21\/op=22\/op=23\/op=24:=by omega
  rcases hcase with rfl|rfl|rfl|rfl|rfl
  ·have hv:ior .i64 (bV (dD .i64 a 1) n) (if l7 a (8*n-1)=true then 1 else 0)=jP 20 n a:=by
    refine j6 (ly _ _) (gC ..) ?_
    rw[mV,cB hlz hn,wK hn ea,kZ 20 hn,show(1:Int)=((1:Nat):Int)from rfl,HD _ (by decide),H6 (F1 h1)]
    show _=2*cg a n%2^(8*n)+cg a n/2^(8*n-1)
    rw[zF a n h1]
   rw[show(eqI 20 22||eqI 20 20)=true from rfl,aE,bQ _ n hn,aa,show eqI 20 20=true from rfl,aE,iG,aa,aa,ah]
   dsimp only
   rw[hv,ss n h1 h8,aa,neB]
   exact Ret.some rfl
  ·have hv:ior .i64 (nF (uns a/2) 8) (if l7 a 0=true then H else 0)=jP 21 n a:=by
    refine j6 (ly _ _) (gC ..) ?_
    rw[mV,u8,kZ 21 hn,hHb,H7 (Di h1 hl)]
    show _=cg a n/2+cg a n%2*2^(8*n-1)
    rw[FM a n h1]
   rw[show(eqI 21 22||eqI 21 20)=false from rfl,ak,show eqI 21 23=false from rfl,ak,show eqI 21 24=false from rfl,ak,iG,aa]
   dsimp only
   rw[Ey,hv,cX,bn,ae (fu),ss n h1 h8,aa,aa,ah,aa,ah]
   rw[show 8*(n:Int)-2=((8*n-2:Nat):Int)by omega,EA _ (by omega),neB]
   exact Ret.some rfl
  ·have hv:bV (dD .i64 a 1) n=jP 22 n a:=by
    refine j6 (eM hlz hn) (gC ..) ?_
    rw[cB hlz hn,wK hn ea,kZ 22 hn]
    unfold wT
    rw[iD,if_pos rfl]
   rw[show(eqI 22 22||eqI 22 20)=true from rfl,aE,bQ _ n hn,aa,show eqI 22 20=false from rfl,ak,aa,ah]
   dsimp only
   rw[hv,ss n h1 h8,aa,neB]
   exact Ret.some rfl
  ·have hv:nF (uns a/2) 8=jP 23 n a:=by
    refine j6 (lk ..) (gC ..) ?_
    rw[u8,kZ 23 hn]
    unfold wT
    rw[iD,iD,if_pos rfl]
   rw[show(eqI 23 22||eqI 23 20)=false from rfl,ak,show eqI 23 23=true from rfl,aE,aa,ah,Ey,hv]
   exact Ret.some rfl
  ·have hv:ior .i64 (nF (uns a/2) 8) (if l7 a (8*n-1)=true then H else 0)=jP 24 n a:=by
    refine j6 (ly _ _) (gC ..) ?_
    rw[mV,u8,kZ 24 hn,hHb,H7 (Di h1 hl)]
    show _=cg a n/2+cg a n/2^(8*n-1)*2^(8*n-1)
    rw[zF a n h1]
   rw[show(eqI 24 22||eqI 24 20)=false from rfl,ak,show eqI 24 23=false from rfl,ak,show eqI 24 24=true from rfl,aE,iG,aa,aa,ah,aa,ah]
   dsimp only
   rw[Ey,hv]
   exact Ret.some rfl
 rintro _ rfl
 rw[ah]
 dsimp only
 refine Ret.bnd (Q:=fun y=>y=(eqI op 22||eqI op 23)) ?_ ?_
 ·cases eqI op 22
  ·exact Ret.some rfl
  ·exact Ret.some rfl
 rintro _ rfl
 refine Ret.bnd (Q:=fun y=>y=(eqI op 22||eqI op 23||eqI op 24)) ?_ ?_
 ·cases (eqI op 22||eqI op 23)
  ·exact Ret.some rfl
  ·exact Ret.some rfl
 rintro _ rfl
 have hrot:(eqI op 22||eqI op 23||eqI op 24)= !decide (op=20\/op=21):=by
  rw[Bool.eq_iff_iff]
  simp only[eqI,Bool.or_eq_true,decide_eq_true_eq,Bool.not_eq_true',decide_eq_false_iff_not];omega
 rw[hrot]
 refine Ret.bnd (Q:=fun y=>∃k,y=Sum.inl ((jP op n a,yW op n a,yX op n a,k,()),())/\gP .i64 k 2049=Bv op n a f) ?_ ?_
 ·unfold Bv
  by_cases hr:op=20\/op=21
  ·rw[decide_eq_true hr,if_pos hr]
   exact Ret.some ⟨f,rfl,C9 hI hf⟩
  ·rw[decide_eq_false hr,if_neg hr]
   show Ret (bnd _ _) _
   rw[jp n hn,aa]
   exact Ret.some ⟨_,rfl,by rw[vB,Gw]⟩
 rintro _ ⟨k,rfl,hk⟩
 rw[ah]
 dsimp only
 rw[iG,aa,iG,aa]
 dsimp only
 rw[hk]
 exact Ret.some rfl
theorem Aj {op a f:Int}{n:Nat}(hn:cl (n:Int)=true)(hI:I64 f)(hf:bS f=true):pA (rR op n a f).1 n/\bS (rR op n a f).2=true/\I64 (rR op n a f).2:=by
 unfold rR
 dsimp only
 refine⟨⟨?_,gC ..⟩,?_⟩
 ·rw[ji (gC ..) hn]
  refine j6 (lk ..) (gC ..) ?_
  rw[nA _ _ (dL hn).2,Nat.mod_eq_of_lt (gO _ _)]
  unfold cg
  rw[kZ op hn,Nat.mod_eq_of_lt (Ak (by have:=dL hn;omega) (gO a n))]
 ·unfold Bv
  split
  ·exact keep_ok hI hf _ _
  ·rw[vB];exact DU ..
def ry (op:Int)(n:Nat):Nat->Int×Int->Int×Int
 |0,x=>x
 |k+1,x=>ry op n k (rR op n x.1 x.2)
theorem z6 {op:Int}{n:Nat}(hn:cl (n:Int)=true):∀(k:Nat) (x:Int×Int),pA x.1 n->bS x.2=true->I64 x.2->pA (ry op n k x).1 n/\bS (ry op n k x).2=true/\I64 (ry op n k x).2
 |0,x,h1,h2,h3=>⟨h1,h2,h3⟩
 |k+1,x,_,h2,h3=>by
  have:=Aj (op:=op) (a:=x.1) hn h3 h2
  exact z6 hn k _ this.1 this.2.1 this.2.2
def ze (n:Nat)(k:Int):Nat:=if n=8 then(k%64).toNat else(k%32).toNat
def jS (op:Int)(n:Nat)(a k f:Int):Int×Int:=ry op n (ze n k) (bV a n,f)
theorem cnt_eq {n:Nat}(hn:cl (n:Int)=true)(k:Int):cz .i64 k (aB .i64 31 (if eqI (n:Int) 8=true then 32 else 0))=(ze n k:Int):=by
 unfold ze
 by_cases h:n=8
 ·subst h
  rw[show eqI ((8:Nat):Int) 8=true from rfl,if_pos rfl,if_pos rfl,show aB .i64 31 32=2^6-1 from by decide,oG k 6 (by decide)]
  show k%64=_
  omega
 ·rw[show eqI (n:Int) 8=false from aq,iD,if_neg h,show aB .i64 31 0=2^5-1 from by decide,oG k 5 (by decide)]
  show k%32=_
  omega
theorem shc_lt (n:Nat)(k:Int):ze n k<64:=by unfold ze;split<;>omega
theorem Hn {op a k f:Int}{n:Nat}(hop:20<=op/\op<=24)(hn:cl (n:Int)=true)(ha:I64 a)(hI:I64 f)(hf:bS f=true):
  jz ((op,(n:Int),a,k,f,()),())=some (((jS op n a k f).1,(jS op n a k f).2,()),()):=by
 unfold jz jS
 dsimp only
 rw[bQ _ n hn,aa,iG,aa]
 dsimp only
 rw[cnt_eq hn]
 have hc:=shc_lt n k
 generalize ze n k=c at hc|-
 dsimp only[p5]
 refine(Ret.iter (fun y=>∃(i:Nat) (z:Int×Int),i<=c/\pA z.1 n/\bS z.2=true/\I64 z.2/\ry op n (c-i) z=ry op n c (bV a n,f)/\y=((op,(n:Int),z.1,z.2,(c:Int),(i:Int),()),())) (fun y=>c-y.1.2.2.2.2.2.1.toNat)
  ?_ F _ ⟨0,(bV a n,f),by omega,mH ha hn,hf,hI,rfl,rfl⟩ (by unfold F;dsimp only;omega)).eq
 rintro _ rec ⟨i,z,hi,hz,hzf,hzI,he,rfl⟩ hrec
 dsimp only
 by_cases h:i<c
 ·rw[ae (fv),xu hop hn hz hzI hzf,aa,aH]
  have ok:=Aj (op:=op) (a:=z.1) hn hzI hzf
  refine hrec _ ⟨i+1,rR op n z.1 z.2,by omega,ok.1,ok.2.1,ok.2.2,?_,rfl⟩ (by dsimp only;omega)
  rw[<-he,show c-i=(c-(i+1))+1 by omega];rfl
 ·have:i=c:=by omega
  subst this
  rw[ag (fM)]
  rw[Nat.sub_self]at he
  refine Ret.some ?_
  rw[<-he];rfl
theorem xr {op a k f:Int}{n:Nat}(hn:cl (n:Int)=true)(ha:I64 a)(hI:I64 f)(hf:bS f=true):I64 (jS op n a k f).1/\bS (jS op n a k f).2=true/\I64 (jS op n a k f).2:=by
 have:=z6 (op:=op) hn (ze n k) (bV a n,f) (mH ha hn) hf hI
 exact⟨this.1.2,this.2⟩
theorem kY (m:Nat):((2^m:Nat):Int)=(2:Int)^m:=by simp
theorem Cq (a b:Int):aB .u64 a b=(a+b)%18446744073709551616:=by unfold aB;exact fh
theorem mulU (a b:Int):bK .u64 a b=(a*b)%18446744073709551616:=by unfold bK;exact fh
theorem subU (a b:Int):aT .u64 a b=(a-b)%18446744073709551616:=by unfold aT;exact fh
theorem sl (x:Int)(k:Nat)(hk:k<=64):cu .u64 x (k:Int)=x/2^k:=by
 unfold cu
 rw[Int.toNat_natCast,show min k IntKind.u64.bits=k by simp[IntKind.bits];omega]
 rw[Int.fdiv_eq_ediv_of_nonneg _ (Int.le_of_lt (Int.pow_pos (by decide)))]
theorem Az (x:Int)(k:Nat)(hk:k<=64):dD .u64 x (k:Int)=x*2^k%18446744073709551616:=by
 unfold dD
 rw[Int.toNat_natCast,show min k IntKind.u64.bits=k by simp[IntKind.bits];omega]
 exact fh
theorem zA {x:Int}(h0:0<=x)(h1:x<18446744073709551616):cz .u64 x 4294967295=x%4294967296:=by
 unfold cz
 rw[fh]
 have:(BitVec.ofInt IntKind.u64.bits x&&& BitVec.ofInt IntKind.u64.bits 4294967295).toNat=(x%4294967296).toNat:=by
  rw[BitVec.toNat_and]
  have e1:(BitVec.ofInt IntKind.u64.bits x).toNat=x.toNat:=by
   show(BitVec.ofInt 64 x).toNat=x.toNat
   rw[BitVec.toNat_ofInt];omega
  rw[e1]
  show x.toNat&&& (2^32-1)=_
  rw[Nat.and_two_pow_sub_one_eq_mod];omega
 rw[this];omega
theorem FD {x y:Int}(hx0:0<=x)(hx:x<18446744073709551616)(hy0:0<=y)(hy:y<18446744073709551616):eX ((x,y,()),())=some ((x*y/18446744073709551616,x*y%18446744073709551616,()),()):=by
 unfold eX
 dsimp only
 have h:=mul64_arith x y hx0 hx hy0 hy
 have s32:∀z,cu .u64 z 32=z/4294967296:=fun z=>sl z 32 (by decide)
 have m0:∀z:Int,0<=z%18446744073709551616/\z%18446744073709551616<18446744073709551616:=fun z=>by omega
 simp only[s32,mulU,Cq]
 rw[zA hx0 hx,zA hy0 hy,zA (m0 _).1 (m0 _).2,h]
theorem sQ {a b:Int}:ej ((a,b,()),())=some ((nF (uns a*uns b/18446744073709551616) 8,nF (uns a*uns b) 8,()),()):=by
 have ha:=eJ a
 have hb:=eJ b
 unfold ej
 dsimp only
 rw[eI,eI,FD (by omega) (by omega) (by omega) (by omega),aa]
 have e1:aj .i64 (((uns a:Nat):Int)*((uns b:Nat):Int)/18446744073709551616)=nF (uns a*uns b/18446744073709551616) 8:=by
  unfold nF aj
  have:uns a*uns b/18446744073709551616<2^(8*8):=by
   rw[Nat.div_lt_iff_lt_mul (by decide)]
   calc uns a*uns b<2^64*2^64:=Nat.mul_lt_mul'' ha hb
    _=_:=by decide
  rw[Nat.mod_eq_of_lt this]
  congr 1
 have e2:aj .i64 (((uns a:Nat):Int)*((uns b:Nat):Int)%18446744073709551616)=nF (uns a*uns b) 8:=by
  unfold nF aj
  congr 1
 dsimp only
 rw[e1,e2]
theorem Ij (m:Nat)(hm:m<=63)(v:Int): -(2:Int)^m<=sx m v/\sx m v<2^m:=by
 unfold sx
 have hp:(0:Int)<2^(m+1):=Int.pow_pos (by decide)
 have h1:=Int.emod_nonneg v (Int.ne_of_gt hp)
 have h2:=Int.emod_lt_of_pos v hp
 have hd:(2:Int)^(m+1)=2^m*2:=Int.pow_succ 2 m
 have hb:v%2^64/2^m%2=v%2^(m+1)/2^m:=by
  have h64:(2:Int)^(m+1)*2^(63-m)=2^64:=by rw[<-Int.pow_add];congr 1;omega
  have h1:v%2^(m+1)=v%2^64%2^(m+1):=by
   rw[Int.emod_emod_of_dvd]
   exact⟨2^(63-m),h64.symm⟩
  rw[h1,Int.pow_succ 2 m]
  have hu:=bt v
  rw[<-hu]
  rw[<-kY m]
  have h2:((2^m:Nat):Int)*2=((2^m*2:Nat):Int):=by simp
  rw[h2]
  rw[<-Int.natCast_ediv,<-Int.natCast_emod,<-Int.natCast_ediv,Nat.mod_mul_right_div_self]
  simp
 rw[hb]
 have hpm:(0:Int)<2^m:=Int.pow_pos (by decide)
 generalize v%2^(m+1)=r at*
 by_cases hs:(2:Int)^m<=r
 ·have hq:r/2^m=1:=by
   rw[Int.ediv_eq_iff_of_pos hpm];omega
  rw[hq,if_pos rfl];omega
 ·have hq:r/2^m=0:=Int.ediv_eq_zero_of_lt h1 (by omega)
  rw[hq,iD];omega
def nE (sg:Bool)(n:Nat)(a:Int):Int:=if sg=true then sx (8*n-1) a else(cg a n:Int)
def lG (n:Nat)(z:Int):Int:=IntKind.wrap .i64 (z%2^(8*n))
def wO (sg:Bool)(n:Nat)(a b:Int):Int:=lG n (nE sg n a*nE sg n b)
def od (sg:Bool)(n:Nat)(a b:Int):Int:=lG n (nE sg n a*nE sg n b/2^(8*n))
def DV (sg:Bool)(n:Nat)(a b:Int):Bool:=if sg=true then sx (8*n-1) (od sg n a b) != cu .i64 (sx (8*n-1) (wO sg n a b)) 63 else od sg n a b != 0
def rE (op:Int)(n:Nat)(a b f:Int):Int×Int×Int:=
 (wO (decide (op≠13)) n a b,od (decide (op≠13)) n a b,ior .i64 (cz .i64 f 196) (if DV (decide (op≠13)) n a b=true then 2049 else 0))
theorem jT (n:Nat)(z:Int):I64 (lG n z):=au _
theorem xD (n:Nat)(hn:n<=8)(z:Int):uns (lG n z)=(z%2^(8*n)).toNat:=by
 unfold lG
 rw[b8]
 have hp:(0:Int)<2^(8*n):=Int.pow_pos (by decide)
 have h1:=Int.emod_nonneg z (Int.ne_of_gt hp)
 have h2:=Int.emod_lt_of_pos z hp
 have h3:(2:Int)^(8*n)<=2^64:=by
  have:=Nat.pow_le_pow_right (show 0<2 by decide) (show 8*n<=64 by omega)
  have e1:=kY (8*n)
  rw[<-e1];exact Int.ofNat_le.2 this
 unfold uns
 rw[Int.emod_eq_of_lt h1 (by omega)]
theorem pB {v z:Int}{n:Nat}(hn:cl (n:Int)=true)(hv:I64 v)(h:(uns v:Int)%2^(8*n)=z%2^(8*n)):bV v n=lG n z:=by
 refine j6 (eM hv hn) (jT ..) ?_
 rw[cB hv hn,xD _ (dL hn).2,<-h]
 unfold cg
 have:((uns v:Int)%2^(8*n))=((uns v%2^(8*n):Nat):Int):=by simp
 rw[this];omega
theorem AF (a b:Int):((uns (bK .i64 a b):Nat):Int)=a*b%18446744073709551616:=by
 unfold bK
 rw[b8,bt];rfl
theorem CS {n:Nat}(hn:n<=8):((2:Int)^(8*n))∣18446744073709551616:=⟨2^(64-8*n),by rw[<-Int.pow_add,show 8*n+(64-8*n)=64 by omega];rfl⟩
theorem fac_mod (sg:Bool){n:Nat}(hn:cl (n:Int)=true)(a:Int):nE sg n a%2^(8*n)=(uns a:Int)%2^(8*n):=by
 have h8:=(dL hn).2
 unfold nE
 cases sg with
 |false=>
  rw[iD]
  unfold cg
  rw[Int.natCast_emod,kY,Int.emod_emod]
 |true=>
  rw[if_pos rfl]
  unfold sx
  rw[show 8*n-1+1=8*n by have:=(dL hn).1;omega,bt,Int.emod_emod_of_dvd a (by have:=CS h8;exact this)]
  split
  ·rw[Int.sub_emod_right,Int.emod_emod]
  ·rw[Int.emod_emod]
theorem HQ (sg:Bool){n:Nat}(hn:cl (n:Int)=true)(a:Int): -(2:Int)^(8*n-1)<=nE sg n a/\nE sg n a<2^(8*n)/\(sg=true->nE sg n a<2^(8*n-1))/\(sg=false->0<=nE sg n a):=by
 have h1:=(dL hn).1
 have hp:(0:Int)<2^(8*n-1):=Int.pow_pos (by decide)
 have hd:(2:Int)^(8*n)=2^(8*n-1)*2:=by rw[<-Int.pow_succ,show(8*n-1).succ=8*n by omega]
 unfold nE
 cases sg with
 |false=>
  rw[iD]
  have:=gO a n
  have h2:(cg a n:Int)<2^(8*n):=by rw[<-kY];exact Int.ofNat_lt.2 this
  exact⟨by omega,h2,fun h=>(by cases h),fun _=>by omega⟩
 |true=>
  rw[if_pos rfl]
  have:=Ij (8*n-1) (by have:=(dL hn).2;omega) a
  exact⟨this.1,by omega,fun _=>this.2,fun h=>(by cases h)⟩
theorem vv {a b:Int}(ha:I64 a)(hb:I64 b):eR ((a,b,()),())=some (lG 8 (a*b/18446744073709551616),()):=by
 unfold eR
 rw[sQ,aa]
 dsimp only
 have ua:=bt a
 have ub:=bt b
 unfold I64 at ha hb
 have hua:(uns a:Int)=a+(if a<0 then 18446744073709551616 else 0):=by split<;>omega
 have hub:(uns b:Int)=b+(if b<0 then 18446744073709551616 else 0):=by split<;>omega
 have hhi:((uns a*uns b/18446744073709551616:Nat):Int)=(uns a:Int)*(uns b:Int)/18446744073709551616:=by simp
 have hdiv:(uns a:Int)*(uns b:Int)/18446744073709551616=a*b/18446744073709551616+(if b<0 then a else 0)+(if a<0 then b else 0)+(if a<0 then if b<0 then 18446744073709551616 else 0 else 0):=by
  rw[hua,hub]
  by_cases h1:a<0<;>by_cases h2:b<0
  ·simp only[if_pos h1,if_pos h2]
   have e:(a+18446744073709551616)*(b+18446744073709551616)=a*b+18446744073709551616*(a+b+18446744073709551616):=by grind
   rw[e,Int.add_mul_ediv_left _ _ (by decide)];omega
  ·simp only[if_pos h1,if_neg h2]
   have e:(a+18446744073709551616)*(b+0)=a*b+18446744073709551616*b:=by grind
   rw[e,Int.add_mul_ediv_left _ _ (by decide)];omega
  ·simp only[if_neg h1,if_pos h2]
   have e:(a+0)*(b+18446744073709551616)=a*b+18446744073709551616*a:=by grind
   rw[e,Int.add_mul_ediv_left _ _ (by decide)];omega
  ·simp only[if_neg h1,if_neg h2]
   rw[Int.add_zero,Int.add_zero];omega
 have hw:∀x y:Int,x%18446744073709551616=y%18446744073709551616->IntKind.wrap .i64 x=IntKind.wrap .i64 y:=fun x y h=>by
  simp only[IntKind.wrap,IntKind.bits,show(2:Int)^64=18446744073709551616 from rfl,h]
 have hwm:∀x:Int,IntKind.wrap .i64 x%18446744073709551616=x%18446744073709551616:=fun x=>by
  have:=b8 x
  have h1:=bt (IntKind.wrap .i64 x)
  have h2:=bt x
  rw[this]at h1
  rw[show(2:Int)^64=18446744073709551616 from rfl]at h1 h2
  omega
 obtain⟨H,hH⟩:∃H:Int,H=nF (uns a*uns b/18446744073709551616) 8:=⟨_,rfl⟩
 have hHm:H%18446744073709551616=((uns a:Int)*(uns b:Int)/18446744073709551616)%18446744073709551616:=by
  rw[hH,<-hhi]
  unfold nF
  rw[hwm]
  show((uns a*uns b/18446744073709551616%18446744073709551616:Nat):Int)%18446744073709551616=_
  omega
 rw[<-hH]
 have hfin:∀z:Int,z%18446744073709551616=(a*b/18446744073709551616)%18446744073709551616->I64 z->z=lG 8 (a*b/18446744073709551616):=fun z hz hzI=>by
  unfold lG
  rw[<-dC hzI]
  refine hw _ _ ?_
  rw[hz]
  show _=(a*b/18446744073709551616)%18446744073709551616%18446744073709551616
  omega
 rw[hdiv]at hHm
 have hHI:I64 H:=by rw[hH];exact lk _ _
 by_cases h1:a<0
 ·rw[ae (fv h1),aa,ah]
  dsimp only
  by_cases h2:b<0
  ·rw[ae (fv h2)]
   rw[if_pos h2,if_pos h1,if_pos h1,if_pos h2]at hHm
   rw[hfin (aT .i64 (aT .i64 H b) a) (by unfold aT;rw[hwm,Int.sub_emod,hwm];omega) (au _)]
  ·rw[ag (fM h2)]
   rw[if_neg h2,if_pos h1,if_pos h1,if_neg h2]at hHm
   rw[hfin (aT .i64 H b) (by unfold aT;rw[hwm];omega) (au _)]
 ·rw[ag (fM h1),aa,ah]
  dsimp only
  by_cases h2:b<0
  ·rw[ae (fv h2)]
   rw[if_pos h2,if_neg h1,if_neg h1]at hHm
   rw[hfin (aT .i64 H a) (by unfold aT;rw[hwm];omega) (au _)]
  ·rw[ag (fM h2)]
   rw[if_neg h2,if_neg h1,if_neg h1]at hHm
   rw[hfin H (by omega) hHI]
theorem neI (a b:Int):aQ (eqI a b)=(a != b):=by
 unfold eqI
 by_cases h:a=b
 ·rw[decide_eq_true h,h];simp[aQ]
 ·rw[decide_eq_false h,bU];exact(bne_iff_ne.2 h).symm
theorem sx63 {v:Int}(hv:I64 v):sx 63 v=v:=by
 unfold I64 at hv
 unfold sx
 rw[show(2:Int)^(63+1)=18446744073709551616 from rfl,show(2:Int)^63=9223372036854775808 from rfl]
 split<;>omega
def sZ (sg:Bool)(n:Nat)(a:Int):Int:=if sg=true then sx (8*n-1) a else bV a n
theorem yl {sg:Bool}{n:Nat}(hn:cl (n:Int)=true)(h8:n≠8){a:Int}(ha:I64 a):sZ sg n a=nE sg n a:=by
 unfold sZ nE
 cases sg with
 |true=>rfl
 |false=>
  rw[iD,iD]
  have h1:=cB ha hn
  have h2:=eM ha hn
  have h3:=bt (bV a n)
  have h4:=gO a n
  have h5:(2:Nat)^(8*n)<=2^32:=Nat.pow_le_pow_right (by decide) (by rcases xN hn with h|h|h|h<;>omega)
  rw[h1]at h3
  have h6:0<=bV a n:=by
   unfold bV
   rw[if_neg h8]
   exact Int.emod_nonneg _ (Int.ne_of_gt (Int.pow_pos (by decide)))
  unfold I64 at h2
  omega
theorem wd {sg:Bool}{a:Int}(ha:I64 a):sZ sg 8 a=a:=by
 unfold sZ
 cases sg with
 |true=>exact sx63 ha
 |false=>show bV a 8=a;exact if_pos rfl
theorem zU {sg:Bool}{n:Nat}(hn:cl (n:Int)=true){a:Int}(ha:I64 a):sZ sg n a%2^(8*n)=nE sg n a%2^(8*n):=by
 by_cases h8:n=8
 ·subst h8
  rw[wd ha,fac_mod sg hn,bt]
  show _=a%2^64%2^64
  rw[Int.emod_emod]
 ·rw[yl hn h8 ha]
theorem GB (x y z w m:Int)(h1:x%m=z%m)(h2:y%m=w%m):x*y%m=z*w%m:=by
 rw[Int.mul_emod,h1,h2,<-Int.mul_emod]
theorem lo_eq {sg:Bool}{n:Nat}(hn:cl (n:Int)=true){a b:Int}(ha:I64 a)(hb:I64 b):bV (bK .i64 (sZ sg n a) (sZ sg n b)) n=wO sg n a b:=by
 refine pB hn (au _) ?_
 rw[AF,Int.emod_emod_of_dvd _ (CS (dL hn).2)]
 exact GB _ _ _ _ _ (zU hn ha) (zU hn hb)
theorem hi_lt {sg:Bool}{n:Nat}(hn:cl (n:Int)=true)(h8:n≠8){a b:Int}(ha:I64 a)(hb:I64 b):
  bV (aj .i64 (cu .u64 (aj .u64 (bK .i64 (sZ sg n a) (sZ sg n b))) (8*(n:Int)))) n=od sg n a b:=by
 have hn4:n=1\/n=2\/n=4:=by rcases xN hn with h|h|h|h<;>omega
 refine pB hn (au _) ?_
 have e8:8*(n:Int)=((8*n:Nat):Int):=by omega
 rw[eI,e8,sl _ _ (by omega)]
 unfold aj
 rw[b8,bt,AF,yl hn h8 ha,yl hn h8 hb]
 generalize nE sg n a*nE sg n b=p
 rw[show(2:Int)^64=18446744073709551616 from rfl]
 rcases hn4 with rfl|rfl|rfl
 ·rw[show(2:Int)^(8*1)=256 from rfl];omega
 ·rw[show(2:Int)^(8*2)=65536 from rfl];omega
 ·rw[show(2:Int)^(8*4)=4294967296 from rfl];omega
theorem hi_8 {a b:Int}:nF (uns a*uns b/18446744073709551616) 8=od false 8 a b:=by
 unfold od nE
 rw[iD,iD]
 unfold lG nF
 congr 1
 unfold cg
 rw[show(2:Nat)^(8*8)=18446744073709551616 from rfl,show(2:Int)^(8*8)=18446744073709551616 from rfl,Nat.mod_eq_of_lt (eJ a),Nat.mod_eq_of_lt (eJ b)]
 have e:((uns a:Nat):Int)*((uns b:Nat):Int)=((uns a*uns b:Nat):Int):=by simp
 rw[e]
 generalize uns a*uns b=p
 omega
theorem hi_8s {a b:Int}(ha:I64 a)(hb:I64 b):lG 8 (a*b/18446744073709551616)=od true 8 a b:=by
 unfold od nE
 rw[if_pos rfl,if_pos rfl,sx63 ha,sx63 hb]
 rfl
theorem rF {op a b f:Int}{n:Nat}(hn:cl (n:Int)=true)(ha:I64 a)(hb:I64 b)(hI:I64 f)(hf:bS f=true):
  dP ((op,(n:Int),a,b,f,()),())=some (((rE op n a b f).1,(rE op n a b f).2.1,(rE op n a b f).2.2,()),()):=by
 obtain⟨h1,h8⟩:=dL hn
 unfold dP
 dsimp only
 have e8:(8*(n:Int)-1).toNat=8*n-1:=by omega
 have hsx:∀v,bh ((v,(n:Int),()),())=some (sx (8*n-1) v,()):=fun v=>by rw[kW _ _ (by omega) (by omega),e8]
 rw[hsx,hsx,aa,aa]
 obtain⟨sg,hsg⟩:∃sg:Bool,sg=decide (op≠13):=⟨_,rfl⟩
 refine(Ret.bnd (Q:=fun y=>y=Sum.inl (((n:Int),f,!sg,sZ sg n a,sZ sg n b,()),())) ?_ ?_).eq
 ·by_cases h:op=13
  ·have:sg=false:=by rw[hsg];simp[h]
   subst this
   rw[be h,aE,bQ _ n hn,bQ _ n hn,aa,aa]
   exact Ret.some rfl
  ·have:sg=true:=by rw[hsg];simp[h]
   subst this
   rw[aq h,ak]
   exact Ret.some rfl
 rintro _ rfl
 rw[ah]
 dsimp only
 rw[bQ _ n hn,lo_eq hn ha hb,aa]
 refine Ret.bnd (Q:=fun y=>y=Sum.inl (((n:Int),f,!sg,wO sg n a b,od sg n a b,()),())) ?_ ?_
 ·by_cases h:n=8
  ·subst h
   rw[ag (fM)]
   cases sg with
   |false=>
    rw[show(!false)=true from rfl,aE,wd ha,wd hb,sQ,aa,aa,ah]
    dsimp only
    rw[hi_8]
    exact Ret.some rfl
   |true=>
    rw[show(!true)=false from rfl,ak,wd ha,wd hb,vv ha hb,aa,aa,ah]
    dsimp only
    rw[hi_8s ha hb]
    exact Ret.some rfl
  ·rw[ae (fv),cX (a:=8),ae (fu),bQ _ n hn,hi_lt hn h ha hb,aa]
   exact Ret.some rfl
 rintro _ rfl
 rw[ah]
 dsimp only
 refine Ret.bnd (Q:=fun y=>y=Sum.inl ((f,wO sg n a b,od sg n a b,DV sg n a b,()),())) ?_ ?_
 ·unfold DV
  cases sg with
  |false=>
   rw[show aQ (!false)=false from rfl,ak,neI]
   exact Ret.some rfl
  |true=>
   rw[show aQ (!true)=true from rfl,aE,hsx,hsx,aa,aa]
   dsimp only
   rw[neI]
   exact Ret.some rfl
 rintro _ rfl
 rw[ah]
 dsimp only
 rw[iG,aa,C9 hI hf]
 unfold rE
 rw[<-hsg]
 exact Ret.some rfl
theorem GA:∀u:Nat,u<2246->(u&&& 2245 != u||(bS (ior .i64 (cz .i64 (u:Int) 196) 0)&&bS (ior .i64 (cz .i64 (u:Int) 196) 2049)))=true:=by decide +kernel
theorem uV {op a b f:Int}{n:Nat}(hI:I64 f)(hf:bS f=true):I64 (rE op n a b f).1/\I64 (rE op n a b f).2.1/\bS (rE op n a b f).2.2=true/\I64 (rE op n a b f).2.2:=by
 refine⟨jT ..,jT ..,?_,ly ..⟩
 obtain⟨u,hu,rfl,hm⟩:=Da hI hf
 have:=GA u hu
 rw[hm]at this
 simp only[bne_self_eq_false,Bool.false_or,Bool.and_eq_true]at this
 unfold rE
 dsimp only
 split
 ·exact this.2
 ·exact this.1
def ma (f b:Int):Bool:= !eqI (cz .i64 f b) 0
def jl (c f:Int):Bool:=(([ma f 2048,ma f 1,ma f 64,ma f 1||ma f 64,ma f 128,ma f 4,ma f 128 != ma f 2048,ma f 64||(ma f 128 != ma f 2048)]:List Bool).getD (c/2).toNat false)==decide (c%2=0)
theorem uE {c f:Int}(h0:0<=c)(h1:c<=15):S_impl_holds ((c,f,()),())=some (jl c f,()):=by
 have hs:∀b,bX ((b,()),(f,()),())=some (ma f b,(f,()),()):=fun b=>rfl
 unfold S_impl_holds
 dsimp only
 simp only[hs]
 have o1:br (ma f 1) (some true) (bnd (some (ma f 64,(f,()),())) fun x8=>some x8.1)=some (ma f 1||ma f 64):=by cases ma f 1<;>rfl
 have o2:br (ma f 64) (some true) (some (aQ (eqB (ma f 128) (ma f 2048))))=some (ma f 64||(ma f 128 != ma f 2048)):=by rw[neB];cases ma f 64<;>rfl
 rw[aa,aa,aa,aa,aa,aa]
 dsimp only
 rw[o1,aa,aa,aa,aa]
 dsimp only
 rw[o2,aa,fS h0 (by decide) (by omega),ae (cA),dG h0,neB]
 rfl
def lenB (u:Nat):Bool:=match ci (((u:Int),()),())with
 |some x=>decide (1<=x.1/\x.1<=8/\2^(x.1.toNat-1)<=u/\u<2^x.1.toNat)
 |none=>false
theorem Gp:∀u:Nat,u<256->1<=u->lenB u=true:=by decide +kernel
theorem len8_ex {u:Nat}(h:u<256)(h1:1<=u):∃l:Nat,ci (((u:Int),()),())=some ((l:Int),())/\1<=l/\l<=8/\2^(l-1)<=u/\u<2^l:=by
 have:=Gp u h h1
 unfold lenB at this
 cases hx:ci (((u:Int),()),())with
 |none=>rw[hx]at this;cases this
 |some x=>
  rw[hx]at this
  have:=of_decide_eq_true this
  obtain⟨n,hn⟩:=Int.eq_ofNat_of_zero_le (show 0<=x.1 by omega)
  rw[hn]at this
  refine⟨n,?_,by omega,by omega,this.2.2.1,this.2.2.2⟩
  rw[<-hn]
theorem Ee {a b u:Nat}(h:2^(a-1)<=u/2^b)(h2:u/2^b<2^a)(ha:1<=a):2^(a+b-1)<=u/\u<2^(a+b):=by
 have hp:0<2^b:=Nat.two_pow_pos b
 rw[Nat.le_div_iff_mul_le hp,<-Nat.pow_add]at h
 rw[Nat.div_lt_iff_lt_mul hp,<-Nat.pow_add]at h2
 rw[show a+b-1=a-1+b by omega]
 exact⟨h,h2⟩
theorem shrN (x k:Nat)(hk:k<=64):cu .u64 (x:Int) (k:Int)=((x/2^k:Nat):Int):=by
 rw[sl _ _ hk,Int.natCast_ediv,kY]
theorem len_fin (T:List UInt8)(i:Int){k l:Nat}(hk:k<=56)(h:some (aB .i64 0 (aj .i64 (eH T i)),())=some ((l:Int),())):some (aB .i64 (k:Int) (aj .i64 (eH T i)),())=some (((l+k:Nat):Int),()):=by
 have hb:0<=eH T i/\eH T i<256:=by
  unfold eH
  have:=(T.getD i.toNat 0).toNat_lt
  omega
 generalize eH T i=w at hb h|-
 rw[xG,aH]at h|-
 injection h with h
 injection h with h _
 rw[show(k:Int)+w=((l+k:Nat):Int)by omega]
theorem FC {x:Nat}(h1:1<=x)(hx:x<18446744073709551616):∃l:Nat,ci (((x:Int),()),())=some ((l:Int),())/\1<=l/\l<=64/\2^(l-1)<=x/\x<2^l:=by
 have s32:∀z:Nat,cu .u64 (z:Int) 32=((z/4294967296:Nat):Int):=fun z=>shrN z 32 (by decide)
 have s16:∀z:Nat,cu .u64 (z:Int) 16=((z/65536:Nat):Int):=fun z=>shrN z 16 (by decide)
 have s8:∀z:Nat,cu .u64 (z:Int) 8=((z/256:Nat):Int):=fun z=>shrN z 8 (by decide)
 unfold ci
 dsimp only
 obtain⟨x1,k1,e1,a1,a2,a3⟩:∃x1 k1:Nat,(br (leI 4294967296 (x:Int)) (some (Sum.inl ((cu .u64 (x:Int) 32,(32:Int),()),()):Sum ((Int×Int×Unit)×Unit) (Int×Unit))) (some (Sum.inl (((x:Int),(0:Int),()),()))))=some (Sum.inl (((x1:Int),(k1:Int),()),()))/\1<=x1/\x1<4294967296/\(k1<=32/\x1=x/2^k1):=by
  by_cases h:4294967296<=x
  ·exact⟨x/4294967296,32,by rw[ae (fu),s32];rfl,by omega,by omega,by omega,rfl⟩
  ·exact⟨x,0,by rw[ag (j9)];rfl,h1,by omega,by omega,by simp⟩
 rw[e1,aa,ah]
 dsimp only
 obtain⟨x2,k2,e2,b1,b2,b3⟩:∃x2 k2:Nat,(br (leI 65536 (x1:Int)) (some (Sum.inl ((cu .u64 (x1:Int) 16,aB .i64 (k1:Int) 16,()),()):Sum ((Int×Int×Unit)×Unit) (Int×Unit))) (some (Sum.inl (((x1:Int),(k1:Int),()),()))))=some (Sum.inl (((x2:Int),(k2:Int),()),()))/\1<=x2/\x2<65536/\(k2<=48/\x2=x/2^k2):=by
  by_cases h:65536<=x1
  ·refine⟨x1/65536,k1+16,by rw[ae (fu),s16,aH];rfl,by omega,by omega,by omega,?_⟩
   rw[a3.2,Nat.pow_add,Nat.div_div_eq_div_mul]
  ·exact⟨x1,k1,by rw[ag (j9)],a1,by omega,by omega,a3.2⟩
 rw[e2,aa,ah]
 dsimp only
 obtain⟨x3,k3,e3,d1,d2,d3⟩:∃x3 k3:Nat,(br (leI 256 (x2:Int)) (some (Sum.inl ((cu .u64 (x2:Int) 8,aB .i64 (k2:Int) 8,()),()):Sum ((Int×Int×Unit)×Unit) (Int×Unit))) (some (Sum.inl (((x2:Int),(k2:Int),()),()))))=some (Sum.inl (((x3:Int),(k3:Int),()),()))/\1<=x3/\x3<256/\(k3<=56/\x3=x/2^k3):=by
  by_cases h:256<=x2
  ·refine⟨x2/256,k2+8,by rw[ae (fu),s8,aH];rfl,by omega,by omega,by omega,?_⟩
   rw[b3.2,Nat.pow_add,Nat.div_div_eq_div_mul]
  ·exact⟨x2,k2,by rw[ag (j9)],b1,by omega,by omega,b3.2⟩
 rw[e3,aa,ah]
 dsimp only
 obtain⟨l,hl,l1,l8,g1,g2⟩:=len8_ex d2 d1
 unfold ci at hl
 dsimp only at hl
 rw[ag (j9),aa,ah]at hl
 dsimp only at hl
 rw[ag (j9),aa,ah]at hl
 dsimp only at hl
 rw[ag (j9),aa,ah]at hl
 dsimp only at hl
 have hr:inR (aj .u8 (x3:Int)) 256=true:=by rw[Fd];exact cA
 rw[hr,aE]at hl|-
 rw[d3.2]at g1 g2
 have:=Ee g1 g2 l1
 exact⟨l+k3,len_fin _ _ d3.1 hl,by omega,by omega,this.1,this.2⟩
structure Dig (y1 y0 u d:Nat):Prop where
 b0:y0<4294967296
 b1:y1<4294967296
 n1:4294967296<=2*y1
 lt:u<y1*4294967296+y0
 bd:d<4294967296
def sX (y1 y0 u d:Nat):Nat:=(u*4294967296+d)/(y1*4294967296+y0)
section
variable {y1 y0 u d:Nat}
theorem Dig.y_pos (h:Dig y1 y0 u d):0<y1*4294967296+y0:=by have:=h.n1;omega
theorem Dig.q_lt (h:Dig y1 y0 u d):sX y1 y0 u d<4294967296:=by
 have h1:=h.lt
 have h2:=h.bd
 unfold sX
 obtain⟨y,hy⟩:∃y,y=y1*4294967296+y0:=⟨_,rfl⟩
 rw[<-hy]at h1|-
 exact Nat.div_lt_of_lt_mul (by omega)
theorem Dig.test (h:Dig y1 y0 u d){q r:Nat}(e:q*y1+r=u):q<=sX y1 y0 u d↔¬4294967296*r+d<q*y0:=by
 unfold sX
 rw[Nat.le_div_iff_mul_le h.y_pos,<-e]
 have e1:q*(y1*4294967296+y0)=q*y1*4294967296+q*y0:=by rw[Nat.mul_add,Nat.mul_assoc]
 rw[e1]
 generalize q*y1=a
 generalize q*y0=b
 omega
theorem Dig.init (h:Dig y1 y0 u d):sX y1 y0 u d<=u/y1/\u/y1<=4294967297/\u%y1<4294967296:=by
 have hy1:0<y1:=by have:=h.n1;omega
 refine⟨?_,?_,?_⟩
 ·rw[Nat.le_div_iff_mul_le hy1]
  have h1:sX y1 y0 u d*(y1*4294967296+y0)<=u*4294967296+d:=Nat.div_mul_le_self _ _
  have e1:sX y1 y0 u d*(y1*4294967296+y0)=sX y1 y0 u d*y1*4294967296+sX y1 y0 u d*y0:=by rw[Nat.mul_add,Nat.mul_assoc]
  rw[e1]at h1
  have:=h.bd
  generalize sX y1 y0 u d*y1=a at*
  generalize sX y1 y0 u d*y0=b at*
  omega
 ·have:u/y1<4294967298:=by
   have:=h.lt
   have:=h.b0
   have:=h.n1
   refine Nat.div_lt_of_lt_mul ?_
   have e:y1*4294967298=y1*4294967296+y1*2:=by rw[<-Nat.mul_add]
   rw[e];omega
  omega
 ·have:=Nat.mod_lt u hy1
  have:=h.b1
  omega
theorem Dig.stop (h:Dig y1 y0 u d){q r:Nat}(e:q*y1+r=u)(hq:sX y1 y0 u d<=q)(h1:q<=4294967296)(hr:4294967296<=r):q=sX y1 y0 u d:=by
 refine Nat.le_antisymm ((h.test e).2 ?_) hq
 have:q*y0<=4294967296*4294967295:=Nat.mul_le_mul h1 (by have:=h.b0;omega)
 omega
theorem Dig.rest (h:Dig y1 y0 u d):(u*4294967296+d)=sX y1 y0 u d*(y1*4294967296+y0)+(u*4294967296+d)%(y1*4294967296+y0)/\(u*4294967296+d)%(y1*4294967296+y0)<y1*4294967296+y0:=by
 refine⟨?_,Nat.mod_lt _ h.y_pos⟩
 unfold sX
 exact(Nat.div_add_mod' _ _).symm
end
theorem addN {a b:Nat}(h:a+b<18446744073709551616):aB .u64 (a:Int) (b:Int)=((a+b:Nat):Int):=by rw[Cq];omega
theorem Fu {a b:Nat}(h:a*b<18446744073709551616):bK .u64 (a:Int) (b:Int)=((a*b:Nat):Int):=by
 rw[mulU]
 have e:(a:Int)*(b:Int)=((a*b:Nat):Int):=by simp
 rw[e];generalize a*b=p at *;omega
theorem subN {a b:Nat}(h:b<=a)(ha:a<18446744073709551616):aT .u64 (a:Int) (b:Int)=((a-b:Nat):Int):=by rw[subU];omega
theorem quoN {a b:Nat}(ha:a<18446744073709551616):kE .u64 (a:Int) (b:Int)=((a/b:Nat):Int):=by
 unfold kE
 rw[Int.tdiv_eq_ediv_of_nonneg (by omega),<-Int.natCast_ediv,fh]
 have:=Nat.div_le_self a b
 generalize a/b=q at*
 omega
theorem remN {a b:Nat}:fw (a:Int) (b:Int)=((a%b:Nat):Int):=by
 unfold fw
 rw[Int.tmod_eq_emod_of_nonneg (by omega),Int.natCast_emod]
theorem restN {a c p r:Nat}(h:a*4294967296+c=p+r)(hr:r<18446744073709551616):aT .u64 (aB .u64 (bK .u64 (a:Int) 4294967296) (c:Int)) (IntKind.wrap .u64 (p:Int))=(r:Int):=by
 rw[subU,Cq,mulU,fh]
 have e:(a:Int)*4294967296+c=p+r:=by omega
 omega
theorem mulW (a b:Nat):bK .u64 (a:Int) (b:Int)=IntKind.wrap .u64 ((a*b:Nat):Int):=by
 unfold bK
 simp
theorem A3 {B u d1 d0 a b u2 r:Nat}(f1:u*B+d1=a+u2)(f2:u2*B+d0=b+r):u*(B*B)+(d1*B+d0)=r+(a*B+b):=by
 have e2:(u*B+d1)*B=(a+u2)*B:=by rw[f1]
 rw[Nat.add_mul,Nat.add_mul,Nat.mul_assoc]at e2
 omega
theorem CJ {u d1 d0 a b u2 r:Nat}(f1:u*4294967296+d1=a+u2)(f2:u2*4294967296+d0=b+r):u*18446744073709551616+(d1*4294967296+d0)=r+(a*4294967296+b):=A3 (B:=4294967296) f1 f2
theorem BZ {y1 y0 u d1 d0:Nat}(D:Dig y1 y0 u d1)(D2:Dig y1 y0 ((u*4294967296+d1)%(y1*4294967296+y0)) d0):
  (u*18446744073709551616+(d1*4294967296+d0))/(y1*4294967296+y0)=sX y1 y0 u d1*4294967296+sX y1 y0 ((u*4294967296+d1)%(y1*4294967296+y0)) d0/\
  (u*18446744073709551616+(d1*4294967296+d0))%(y1*4294967296+y0)=((u*4294967296+d1)%(y1*4294967296+y0)*4294967296+d0)%(y1*4294967296+y0):=by
 obtain⟨e1,l1⟩:=D.rest
 obtain⟨e2,l2⟩:=D2.rest
 have hp:=D.y_pos
 obtain⟨u2,hu2⟩:∃u2,u2=(u*4294967296+d1)%(y1*4294967296+y0):=⟨_,rfl⟩
 rw[<-hu2]at e1 e2 l1 l2|-
 obtain⟨r,hr⟩:∃r,r=(u2*4294967296+d0)%(y1*4294967296+y0):=⟨_,rfl⟩
 rw[<-hr]at e2 l2|-
 obtain⟨Q1,hQ1⟩:∃Q,Q=sX y1 y0 u d1:=⟨_,rfl⟩
 obtain⟨Q0,hQ0⟩:∃Q,Q=sX y1 y0 u2 d0:=⟨_,rfl⟩
 rw[<-hQ1]at e1|-
 rw[<-hQ0]at e2|-
 obtain⟨y,hy⟩:∃y,y=y1*4294967296+y0:=⟨_,rfl⟩
 rw[<-hy]at e1 e2 l2 hp|-
 have e:u*18446744073709551616+(d1*4294967296+d0)=r+y*(Q1*4294967296+Q0):=by
  have a1:y*(Q1*4294967296+Q0)=Q1*y*4294967296+Q0*y:=by rw[Nat.mul_add,<-Nat.mul_assoc,Nat.mul_comm y Q1,Nat.mul_comm y Q0]
  obtain⟨a,ha⟩:∃a,a=Q1*y:=⟨_,rfl⟩
  obtain⟨b,hb⟩:∃b,b=Q0*y:=⟨_,rfl⟩
  have f1:u*4294967296+d1=a+u2:=by rw[ha];exact e1
  have f2:u2*4294967296+d0=b+r:=by rw[hb];exact e2
  have f3:y*(Q1*4294967296+Q0)=a*4294967296+b:=by rw[ha,hb];exact a1
  rw[f3]
  exact CJ f1 f2
 rw[e]
 constructor
 ·rw[Nat.add_mul_div_left _ _ hp,Nat.div_eq_of_lt l2];omega
 ·rw[Nat.add_mul_mod_self_left,Nat.mod_eq_of_lt l2]
structure DigF (y y1 y0 u d Q r:Nat):Prop where
 b0:y0<4294967296
 b1:y1<4294967296
 p1:0<y1
 ql:Q<4294967296
 t:∀q r,q*y1+r=u->(q<=Q↔¬4294967296*r+d<q*y0)
 st:∀q r,q*y1+r=u->Q<=q->q<=4294967296->4294967296<=r->q=Q
 i:Q<=u/y1/\u/y1<=4294967297/\u%y1<4294967296
 rr:u*4294967296+d=Q*y+r
 rl:r<18446744073709551616
 ul:u<18446744073709551616
 bd:d<4294967296
theorem Dig.f {y1 y0 u d y:Nat}(h:Dig y1 y0 u d)(hy:y=y1*4294967296+y0):DigF y y1 y0 u d (sX y1 y0 u d) ((u*4294967296+d)%(y1*4294967296+y0)):=by
 have hW:y1*4294967296+y0<18446744073709551616:=by have:=h.b1;have:=h.b0;omega
 refine⟨h.b0,h.b1,by have:=h.n1;omega,h.q_lt,fun q r e=>h.test e,fun q r e a b c=>h.stop e a b c,h.init,?_,Nat.lt_trans h.rest.2 hW,Nat.lt_trans h.lt hW,h.bd⟩
 rw[hy];exact h.rest.1
theorem FW {G:Option ((Int×Int×Unit)×Unit)}{y y1 y0 u d1 d0 s Q1 Q0 u2 r2:Nat}(D:DigF y y1 y0 u d1 Q1 u2)(D2:DigF y y1 y0 u2 d0 Q0 r2)(hs:s<=63){A B:Nat}
  (hA:Q1*4294967296+Q0=A) (hB:r2/2^s=B)
  (hG:G=iter F (fun(x7:((Int×Int×Int×Int×Int×Int×Int×Int×Int×Unit)×Unit)->(Option ((Int×Int×Unit)×Unit)))=>(fun(x8:((Int×Int×Int×Int×Int×Int×Int×Int×Int×Unit)×Unit))=>bnd (br (leI 4294967296 (p7 x8.1)) (some true) (some (ltI (aB .u64 (bK .u64 4294967296 (p8 x8.1)) (p5 x8.1)) (bK .u64 (p7 x8.1) x8.1.2.2.2.1)))) (fun(x9:Bool)=>br x9 (br (leI 4294967296 (aB .u64 (p8 x8.1) x8.1.2.2.1)) (br (aQ (eqI x8.1.2.2.1 0)) (iter F (fun(x10:((Int×Int×Int×Int×Int×Int×Int×Int×Int×Unit)×Unit)->(Option ((Int×Int×Unit)×Unit)))=>(fun(x11:((Int×Int×Int×Int×Int×Int×Int×Int×Int×Unit)×Unit))=>bnd (br (leI 4294967296 (p8 x11.1)) (some true) (some (ltI (aB .u64 (bK .u64 4294967296 (p6 x11.1)) x11.1.2.2.2.2.1) (bK .u64 (p8 x11.1) x11.1.2.2.2.1)))) (fun(x12:Bool)=>br x12 (br (leI 4294967296 (aB .u64 (p6 x11.1) x11.1.2.2.1)) (br (leI 0 x11.1.2.1) (some (((aB .u64 (bK .u64 (p5 x11.1) 4294967296) (aT .u64 (p8 x11.1) 1)),(cu .u64 (aT .u64 (aB .u64 (bK .u64 (p7 x11.1) 4294967296) x11.1.2.2.2.2.1) (bK .u64 (aT .u64 (p8 x11.1) 1) x11.1.1)) x11.1.2.1),()),())) none) (x10 ((cp6 x11.1 ((aB .u64 (p6 x11.1) x11.1.2.2.1),(p7 x11.1),(aT .u64 (p8 x11.1) 1),())),()))) (br (leI 0 x11.1.2.1) (some (((aB .u64 (bK .u64 (p5 x11.1) 4294967296) (p8 x11.1)),(cu .u64 (aT .u64 (aB .u64 (bK .u64 (p7 x11.1) 4294967296) x11.1.2.2.2.2.1) (bK .u64 (p8 x11.1) x11.1.1)) x11.1.2.1),()),())) none)))) ((x8.1.1,x8.1.2.1,x8.1.2.2.1,x8.1.2.2.2.1,(p6 x8.1),(aT .u64 (p7 x8.1) 1),(aT .u64 (aT .u64 (aB .u64 (bK .u64 x8.1.2.2.2.2.1 4294967296) (p5 x8.1)) (bK .u64 (aT .u64 (p7 x8.1) 1) x8.1.1)) (bK .u64 (kE .u64 (aT .u64 (aB .u64 (bK .u64 x8.1.2.2.2.2.1 4294967296) (p5 x8.1)) (bK .u64 (aT .u64 (p7 x8.1) 1) x8.1.1)) x8.1.2.2.1) x8.1.2.2.1)),(aT .u64 (aB .u64 (bK .u64 x8.1.2.2.2.2.1 4294967296) (p5 x8.1)) (bK .u64 (aT .u64 (p7 x8.1) 1) x8.1.1)),(kE .u64 (aT .u64 (aB .u64 (bK .u64 x8.1.2.2.2.2.1 4294967296) (p5 x8.1)) (bK .u64 (aT .u64 (p7 x8.1) 1) x8.1.1)) x8.1.2.2.1),()),())) none) (x7 ((cp7 x8.1 ((aT .u64 (p7 x8.1) 1),(aB .u64 (p8 x8.1) x8.1.2.2.1),())),()))) (br (aQ (eqI x8.1.2.2.1 0)) (iter F (fun(x13:((Int×Int×Int×Int×Int×Int×Int×Int×Int×Unit)×Unit)->(Option ((Int×Int×Unit)×Unit)))=>(fun(x14:((Int×Int×Int×Int×Int×Int×Int×Int×Int×Unit)×Unit))=>bnd (br (leI 4294967296 (p8 x14.1)) (some true) (some (ltI (aB .u64 (bK .u64 4294967296 (p6 x14.1)) x14.1.2.2.2.2.1) (bK .u64 (p8 x14.1) x14.1.2.2.2.1)))) (fun(x15:Bool)=>br x15 (br (leI 4294967296 (aB .u64 (p6 x14.1) x14.1.2.2.1)) (br (leI 0 x14.1.2.1) (some (((aB .u64 (bK .u64 (p5 x14.1) 4294967296) (aT .u64 (p8 x14.1) 1)),(cu .u64 (aT .u64 (aB .u64 (bK .u64 (p7 x14.1) 4294967296) x14.1.2.2.2.2.1) (bK .u64 (aT .u64 (p8 x14.1) 1) x14.1.1)) x14.1.2.1),()),())) none) (x13 ((cp6 x14.1 ((aB .u64 (p6 x14.1) x14.1.2.2.1),(p7 x14.1),(aT .u64 (p8 x14.1) 1),())),()))) (br (leI 0 x14.1.2.1) (some (((aB .u64 (bK .u64 (p5 x14.1) 4294967296) (p8 x14.1)),(cu .u64 (aT .u64 (aB .u64 (bK .u64 (p7 x14.1) 4294967296) x14.1.2.2.2.2.1) (bK .u64 (p8 x14.1) x14.1.1)) x14.1.2.1),()),())) none)))) ((x8.1.1,x8.1.2.1,x8.1.2.2.1,x8.1.2.2.2.1,(p6 x8.1),(p7 x8.1),(aT .u64 (aT .u64 (aB .u64 (bK .u64 x8.1.2.2.2.2.1 4294967296) (p5 x8.1)) (bK .u64 (p7 x8.1) x8.1.1)) (bK .u64 (kE .u64 (aT .u64 (aB .u64 (bK .u64 x8.1.2.2.2.2.1 4294967296) (p5 x8.1)) (bK .u64 (p7 x8.1) x8.1.1)) x8.1.2.2.1) x8.1.2.2.1)),(aT .u64 (aB .u64 (bK .u64 x8.1.2.2.2.2.1 4294967296) (p5 x8.1)) (bK .u64 (p7 x8.1) x8.1.1)),(kE .u64 (aT .u64 (aB .u64 (bK .u64 x8.1.2.2.2.2.1 4294967296) (p5 x8.1)) (bK .u64 (p7 x8.1) x8.1.1)) x8.1.2.2.1),()),())) none)))) ((((y:Nat):Int),(s:Int),(y1:Int),(y0:Int),(u:Int),(d1:Int),(d0:Int),((u/y1:Nat):Int),((u%y1:Nat):Int),()),())):
  G=some ((((A:Nat):Int),((B:Nat):Int),()),()):=by
 subst hG
 have hu2:=D.rl
 have hN1:=D.rr
 have hy1:=D.p1
 have fin:Ret (some ((aB .u64 (bK .u64 (Q1:Int) 4294967296) (Q0:Int),cu .u64 (aT .u64 (aB .u64 (bK .u64 (u2:Int) 4294967296) (d0:Int)) (IntKind.wrap .u64 ((Q0*y:Nat):Int))) (s:Int),()),())) (fun y=>y=((((A:Nat):Int),((B:Nat):Int),()),())):=by
  have q1:=D.ql
  have q0:=D2.ql
  rw[restN D2.rr D2.rl,shrN _ _ (by omega),hB]
  have e1:bK .u64 (Q1:Int) 4294967296=((Q1*4294967296:Nat):Int):=Fu (b:=4294967296) (by omega)
  rw[e1,addN (by omega),hA]
  exact Ret.some rfl
 refine(Ret.iter (fun x=>∃q r:Nat,q*y1+r=u/\Q1<=q/\q<=4294967297/\r<4294967296/\x=(((y:Int),(s:Int),(y1:Int),(y0:Int),(u:Int),(d1:Int),(d0:Int),(q:Int),(r:Int),()),())) (fun x=>x.1.2.2.2.2.2.2.2.1.toNat)
  ?_ F _ ⟨u/y1,u%y1,Nat.div_add_mod' _ _,D.i.1,D.i.2.1,D.i.2.2,rfl⟩ (by unfold F;dsimp only;rw[Int.toNat_natCast];have:=D.i.2.1;omega)).eq
 rintro _ rec ⟨q,r,he,hQ,hq,hr,rfl⟩ hrec
 dsimp only[p5,p6,p7,p8,cp7]at hrec|-
 refine Ret.bnd (Q:=fun z=>(z=true/\Q1<q)\/(z=false/\q=Q1)) ?_ ?_
 ·by_cases hb:4294967296<=q
  ·rw[ae (fu)]
   exact Ret.some (.inl ⟨rfl,by have:=D.ql;omega⟩)
  ·rw[ag (j9)]
   have hm:q*y0<18446744073709551616:=Nat.lt_of_le_of_lt (Nat.mul_le_mul (show q<=4294967295 by omega) (show y0<=4294967295 by have:=D.b0;omega)) (show 4294967295*4294967295<18446744073709551616 by omega)
   have hr2:4294967296*r+d1<18446744073709551616:=by have:=D.bd;omega
   rw[show(4294967296:Int)=((4294967296:Nat):Int)from rfl,Fu (a:=4294967296) (b:=r) (by omega),addN hr2,Fu hm]
   have ht:=D.t _ _ he
   by_cases hx:4294967296*r+d1<q*y0
   ·rw[fv]
    exact Ret.some (.inl ⟨rfl,by
     have:¬q<=Q1:=fun g=>ht.1 g hx
     omega⟩)
   ·rw[fM]
    exact Ret.some (.inr ⟨rfl,by have:=ht.2 hx;omega⟩)
 intro z hz
 rcases hz with ⟨rfl,hlt⟩|⟨rfl,hqe⟩
 ·rw[aE,addN (a:=r) (b:=y1) (by have:=D.b1;omega)]
  have hq1:aT .u64 (q:Int) 1=((q-1:Nat):Int):=subN (b:=1) (by omega) (by omega)
  have he':(q-1)*y1+(r+y1)=u:=by
   obtain⟨k,rfl⟩:∃k,q=k+1:=⟨q-1,by omega⟩
   rw[Nat.add_sub_cancel,<-he,Nat.add_mul];omega
  rw[hq1]
  by_cases hb:4294967296<=r+y1
  ·rw[ae (fu),ae (show aQ (eqI (y1:Int) 0)=true by rw[aq];rfl)]
   have hst:=D.st _ _ he' (by omega) (by omega) hb
   rw[hst,mulW]
   rw[restN hN1 hu2,quoN hu2,Fu (Nat.lt_of_le_of_lt (Nat.div_mul_le_self u2 y1) hu2),subN (Nat.div_mul_le_self u2 y1) hu2]
   refine Ret.iter (fun x=>∃q r:Nat,q*y1+r=u2/\Q0<=q/\q<=4294967297/\r<4294967296/\x=(((y:Int),(s:Int),(y1:Int),(y0:Int),(d0:Int),(Q1:Int),(r:Int),(u2:Int),(q:Int),()),())) (fun x=>x.1.2.2.2.2.2.2.2.2.1.toNat)
    ?_ F _ ⟨u2/y1,u2%y1,Nat.div_add_mod' _ _,D2.i.1,D2.i.2.1,D2.i.2.2,by
     have:u2-u2/y1*y1=u2%y1:=by have:=Nat.div_add_mod' u2 y1;omega
     rw[this]⟩ (by unfold F;dsimp only;rw[Int.toNat_natCast];have:=D2.i.2.1;omega)
   rintro _ rec2 ⟨q,r,he,hQ,hq,hr,rfl⟩ hrec2
   dsimp only[p5,p6,p7,p8,cp6]at hrec2|-
   refine Ret.bnd (Q:=fun z=>(z=true/\Q0<q)\/(z=false/\q=Q0)) ?_ ?_
   ·by_cases hb:4294967296<=q
    ·rw[ae (fu)]
     exact Ret.some (.inl ⟨rfl,by have:=D2.ql;omega⟩)
    ·rw[ag (j9)]
     have hm:q*y0<18446744073709551616:=Nat.lt_of_le_of_lt (Nat.mul_le_mul (show q<=4294967295 by omega) (show y0<=4294967295 by have:=D.b0;omega)) (show 4294967295*4294967295<18446744073709551616 by omega)
     have hr2:4294967296*r+d0<18446744073709551616:=by have:=D2.bd;omega
     rw[show(4294967296:Int)=((4294967296:Nat):Int)from rfl,Fu (a:=4294967296) (b:=r) (by omega),addN hr2,Fu hm]
     have ht:=D2.t _ _ he
     by_cases hx:4294967296*r+d0<q*y0
     ·rw[fv]
      exact Ret.some (.inl ⟨rfl,by
       have:¬q<=Q0:=fun g=>ht.1 g hx
       omega⟩)
     ·rw[fM]
      exact Ret.some (.inr ⟨rfl,by have:=ht.2 hx;omega⟩)
   rintro z hz
   rcases hz with ⟨rfl,hlt⟩|⟨rfl,rfl⟩
   ·rw[aE,addN (a:=r) (b:=y1) (by have:=D.b1;omega)]
    have hq1:aT .u64 (q:Int) 1=((q-1:Nat):Int):=subN (b:=1) (by omega) (by omega)
    have he':(q-1)*y1+(r+y1)=u2:=by
     obtain⟨k,rfl⟩:∃k,q=k+1:=⟨q-1,by omega⟩
     rw[Nat.add_sub_cancel,<-he,Nat.add_mul];omega
    rw[hq1]
    by_cases hb:4294967296<=r+y1
    ·rw[ae (fu),ae (fu)]
     have hs:=D2.st _ _ he' (by omega) (by omega) hb
     rw[hs,mulW]
     exact fin
    ·rw[ag (j9)]
     exact hrec2 _ ⟨q-1,r+y1,he',by omega,by omega,by omega,rfl⟩ (by dsimp only;omega)
   ·rw[ak,ae (fu),mulW]
    exact fin
  ·rw[ag (j9)]
   exact hrec _ ⟨q-1,r+y1,he',by omega,by omega,by omega,rfl⟩ (by dsimp only;omega)
 ·rw[hqe,ak,ae (show aQ (eqI (y1:Int) 0)=true by rw[aq];rfl),mulW]
  rw[restN hN1 hu2,quoN hu2,Fu (Nat.lt_of_le_of_lt (Nat.div_mul_le_self u2 y1) hu2),subN (Nat.div_mul_le_self u2 y1) hu2]
  refine Ret.iter (fun x=>∃q r:Nat,q*y1+r=u2/\Q0<=q/\q<=4294967297/\r<4294967296/\x=(((y:Int),(s:Int),(y1:Int),(y0:Int),(d0:Int),(Q1:Int),(r:Int),(u2:Int),(q:Int),()),())) (fun x=>x.1.2.2.2.2.2.2.2.2.1.toNat)
   ?_ F _ ⟨u2/y1,u2%y1,Nat.div_add_mod' _ _,D2.i.1,D2.i.2.1,D2.i.2.2,by
    have:u2-u2/y1*y1=u2%y1:=by have:=Nat.div_add_mod' u2 y1;omega
    rw[this]⟩ (by unfold F;dsimp only;rw[Int.toNat_natCast];have:=D2.i.2.1;omega)
  rintro _ rec2 ⟨q,r,he,hQ,hq,hr,rfl⟩ hrec2
  dsimp only[p5,p6,p7,p8,cp6]at hrec2|-
  refine Ret.bnd (Q:=fun z=>(z=true/\Q0<q)\/(z=false/\q=Q0)) ?_ ?_
  ·by_cases hb:4294967296<=q
   ·rw[ae (fu)]
    exact Ret.some (.inl ⟨rfl,by have:=D2.ql;omega⟩)
   ·rw[ag (j9)]
    have hm:q*y0<18446744073709551616:=Nat.lt_of_le_of_lt (Nat.mul_le_mul (show q<=4294967295 by omega) (show y0<=4294967295 by have:=D.b0;omega)) (show 4294967295*4294967295<18446744073709551616 by omega)
    have hr2:4294967296*r+d0<18446744073709551616:=by have:=D2.bd;omega
    rw[show(4294967296:Int)=((4294967296:Nat):Int)from rfl,Fu (a:=4294967296) (b:=r) (by omega),addN hr2,Fu hm]
    have ht:=D2.t _ _ he
    by_cases hx:4294967296*r+d0<q*y0
    ·rw[fv]
     exact Ret.some (.inl ⟨rfl,by
      have:¬q<=Q0:=fun g=>ht.1 g hx
      omega⟩)
    ·rw[fM]
     exact Ret.some (.inr ⟨rfl,by have:=ht.2 hx;omega⟩)
  rintro z hz
  rcases hz with ⟨rfl,hlt⟩|⟨rfl,rfl⟩
  ·rw[aE,addN (a:=r) (b:=y1) (by have:=D.b1;omega)]
   have hq1:aT .u64 (q:Int) 1=((q-1:Nat):Int):=subN (b:=1) (by omega) (by omega)
   have he':(q-1)*y1+(r+y1)=u2:=by
    obtain⟨k,rfl⟩:∃k,q=k+1:=⟨q-1,by omega⟩
    rw[Nat.add_sub_cancel,<-he,Nat.add_mul];omega
   rw[hq1]
   by_cases hb:4294967296<=r+y1
   ·rw[ae (fu),ae (fu)]
    have hs:=D2.st _ _ he' (by omega) (by omega) hb
    rw[hs,mulW]
    exact fin
   ·rw[ag (j9)]
    exact hrec2 _ ⟨q-1,r+y1,he',by omega,by omega,by omega,rfl⟩ (by dsimp only;omega)
  ·rw[ak,ae (fu),mulW]
   exact fin
theorem GE {X y0 s:Nat}:X*2^s/(y0*2^s)=X/y0/\X*2^s%(y0*2^s)/2^s=X%y0:=by
 have hp:0<2^s:=Nat.two_pow_pos s
 constructor
 ·rw[Nat.mul_div_mul_right _ _ hp]
 ·rw[Nat.mul_mod_mul_right,Nat.mul_div_cancel _ hp]
theorem iorN {a b k:Nat}(ha:a*2^k<18446744073709551616)(hb:b<2^k)(l1:a*2^k+b<18446744073709551616):ior .u64 ((a*2^k:Nat):Int) (b:Int)=((a*2^k+b:Nat):Int):=by
 have e:a*2^k|||b=a*2^k+b:=by rw[Nat.mul_comm,Nat.two_pow_add_eq_or_of_lt hb]
 unfold ior
 rw[fh]
 have:((BitVec.ofInt IntKind.u64.bits ((a*2^k:Nat):Int)|||BitVec.ofInt IntKind.u64.bits (b:Int)).toNat)=(a*2^k)%18446744073709551616|||b%18446744073709551616:=by
  rw[BitVec.toNat_or]
  show(BitVec.ofInt 64 ((a*2^k:Nat):Int)).toNat|||(BitVec.ofInt 64 (b:Int)).toNat=_
  rw[BitVec.toNat_ofInt,BitVec.toNat_ofInt]
  show(((a*2^k:Nat):Int)%(18446744073709551616:Nat)).toNat|||((b:Int)%(18446744073709551616:Nat)).toNat=_
  rw[<-Int.natCast_emod,<-Int.natCast_emod,Int.toNat_natCast,Int.toNat_natCast]
 have l2:b<18446744073709551616:=by omega
 rw[this,Nat.mod_eq_of_lt ha,Nat.mod_eq_of_lt l2,e]
 omega
theorem If {a s:Nat}(hs:s<=64):dD .u64 (a:Int) (s:Int)=((a*2^s%18446744073709551616:Nat):Int):=by
 rw[Az _ _ hs]
 rw[<-kY s,<-Int.natCast_mul]
 obtain⟨p,hp⟩:∃p,p=a*2^s:=⟨_,rfl⟩
 rw[<-hp];omega
theorem BJ {a s:Nat}(hs:s<=64):cu .u64 (a:Int) (s:Int)=((a/2^s:Nat):Int):=by
 rw[sl _ _ hs,<-kY s,Int.natCast_ediv]
theorem Ig (a:Nat):cu .u64 (a:Int) 32=((a/4294967296:Nat):Int):=BJ (a:=a) (s:=32) (by decide)
theorem HM {a:Nat}(h:a<18446744073709551616):cz .u64 (a:Int) 4294967295=((a%4294967296:Nat):Int):=by
 rw[zA (by omega) (by omega)];omega
theorem Br {P R hi lo d B:Nat}(hR:0<R)(hP:0<P)(hW:P*R=B*B)(hd:d*P<B*B)(hn:B*B<=2*(d*P))(h:hi<d)(hlo:lo<B*B)(hB:2<=B)(hBe:B%2=0):
  lo/R<P/\hi*P<B*B/\hi*P+lo/R<d*P/\(hi*P+lo/R)*(B*B)+lo*P%(B*B)=(hi*(B*B)+lo)*P/\d*P/B<B/\B<=2*(d*P/B):=by
 have h1:lo/R<P:=Nat.div_lt_of_lt_mul (by rw[Nat.mul_comm,hW];exact hlo)
 have h2:(hi+1)*P<=d*P:=Nat.mul_le_mul_right _ h
 rw[Nat.add_mul,Nat.one_mul]at h2
 refine⟨h1,by omega,by omega,?_,Nat.div_lt_of_lt_mul hd,?_⟩
 ·have e1:lo*P=lo/R*(B*B)+lo%R*P:=by
   rw[<-hW,Nat.mul_comm P R,<-Nat.mul_assoc,<-Nat.add_mul,Nat.div_add_mod']
  have l1:lo%R*P<B*B:=by
   rw[<-hW,Nat.mul_comm P R]
   exact Nat.mul_lt_mul_of_pos_right (Nat.mod_lt _ hR) hP
  have e2:lo*P%(B*B)=lo%R*P:=by
   rw[e1,Nat.mul_comm (lo/R),Nat.mul_add_mod,Nat.mod_eq_of_lt l1]
  rw[e2,Nat.add_mul,Nat.add_mul,e1,Nat.mul_right_comm hi P]
  omega
 ·obtain⟨c,hc⟩:∃c,B=2*c:=⟨B/2,by omega⟩
  have:c<=d*P/B:=by
   rw[Nat.le_div_iff_mul_le (by omega)]
   have:B*B=2*(c*B):=by rw[<-Nat.mul_assoc,<-hc]
   omega
  omega
theorem FA {hi lo d:Nat}(h:hi<d)(hd:d<18446744073709551616)(hlo:lo<18446744073709551616):
  eW (((hi:Int),(lo:Int),(d:Int),()),())=some (((((hi*18446744073709551616+lo)/d:Nat):Int),(((hi*18446744073709551616+lo)%d:Nat):Int),()),()):=by
 unfold eW
 dsimp only
 rw[aq (show(d:Int)≠0 by omega),ak,aa,ah]
 dsimp only
 rw[j9 (show ¬(d:Int)<=hi by omega),ak,aa,ah]
 dsimp only
 by_cases h0:hi=0
 ·subst h0
  rw[show eqI ((0:Nat):Int) 0=true from rfl,aE,aq (show(d:Int)≠0 by omega),bU,aE,aE,quoN hlo,remN]
  rw[Nat.zero_mul,Nat.zero_add]
 ·rw[aq (show(hi:Int)≠0 by omega),ak]
  obtain⟨l,hl,l1,l64,b1,b2⟩:=FC (show 1<=d by omega) hd
  have hlz:cm (((d:Int),()),())=some (((64-l:Nat):Int),()):=by
   unfold cm
   rw[hl,aa]
   dsimp only
   rw[bn]
   rw[show(64:Int)-l=((64-l:Nat):Int)by omega]
  rw[hlz,aa]
  dsimp only
  obtain⟨s,hs⟩:∃s,s=64-l:=⟨_,rfl⟩
  rw[<-hs]
  have hs63:s<=63:=by omega
  have hws:aj .u64 (s:Int)=(s:Int):=cJ
  rw[hws,ae (fu),ae (fu)]
  have e64:aT .u64 64 (s:Int)=((64-s:Nat):Int):=subN (a:=64) (by omega) (by decide)
  rw[e64,ae (fu),ae (fu)]
  have hPR:2^s*2^(64-s)=4294967296*4294967296:=by
   rw[<-Nat.pow_add,show s+(64-s)=64 by omega]
  have hY2:d*2^s<4294967296*4294967296:=by
   have:d*2^s<2^l*2^s:=Nat.mul_lt_mul_of_pos_right b2 (Nat.two_pow_pos s)
   rw[<-Nat.pow_add,show l+s=64 by omega]at this
   exact this
  have hY1:4294967296*4294967296<=2*(d*2^s):=by
   have:2^(l-1)*2^s<=d*2^s:=Nat.mul_le_mul_right _ b1
   rw[<-Nat.pow_add,show l-1+s=63 by omega]at this
   have e:(4294967296*4294967296:Nat)=2*2^63:=by decide
   rw[e];exact Nat.mul_le_mul_left 2 this
  obtain⟨c1,c2,c3,c4,c5,c6⟩:=Br (Nat.two_pow_pos (64-s)) (Nat.two_pow_pos s) hPR hY2 hY1 h (B:=4294967296) (lo:=lo) hlo (by decide) (by decide)
  rw[If (a:=d) (by omega),If (a:=hi) (by omega),If (a:=lo) (by omega),BJ (a:=lo) (s:=64-s) (by omega)]
  rw[Nat.mod_eq_of_lt hY2,Nat.mod_eq_of_lt c2]
  have hul:hi*2^s+lo/2^(64-s)<18446744073709551616:=Nat.lt_trans c3 hY2
  rw[iorN c2 c1 hul,Ig,Ig,HM hY2]
  have hL:lo*2^s%18446744073709551616<18446744073709551616:=Nat.mod_lt _ (by decide)
  rw[HM hL]
  obtain⟨X,hX⟩:∃X,X=hi*18446744073709551616+lo:=⟨_,rfl⟩
  have c4':(hi*2^s+lo/2^(64-s))*18446744073709551616+lo*2^s%18446744073709551616=X*2^s:=by rw[hX];exact c4
  rw[<-hX]
  have nd:=GE (X:=X) (y0:=d) (s:=s)
  obtain⟨u,hu⟩:∃u,u=hi*2^s+lo/2^(64-s):=⟨_,rfl⟩
  obtain⟨y,hy⟩:∃y,y=d*2^s:=⟨_,rfl⟩
  obtain⟨L,hLe⟩:∃L,L=lo*2^s%18446744073709551616:=⟨_,rfl⟩
  rw[<-hu,<-hLe]at c4'
  rw[<-hu,<-hy]at c3
  rw[<-hy]at c5 c6 nd hY2
  rw[<-hu]at hul
  rw[<-hLe]at hL
  rw[<-hu,<-hy,<-hLe]
  rw[<-c4']at nd
  obtain⟨y1,hy1⟩:∃v,v=y/4294967296:=⟨_,rfl⟩
  obtain⟨y0,hy0⟩:∃v,v=y%4294967296:=⟨_,rfl⟩
  obtain⟨d1,hd1⟩:∃v,v=L/4294967296:=⟨_,rfl⟩
  obtain⟨d0,hd0⟩:∃v,v=L%4294967296:=⟨_,rfl⟩
  rw[<-hy1,<-hy0,<-hd1,<-hd0]
  rw[<-hy1]at c5 c6
  have hyy:y=y1*4294967296+y0:=by omega
  have hLL:L=d1*4294967296+d0:=by omega
  have D:Dig y1 y0 u d1:=⟨by omega,c5,c6,by rw[<-hyy];exact c3,by omega⟩
  have D2:Dig y1 y0 ((u*4294967296+d1)%(y1*4294967296+y0)) d0:=⟨by omega,c5,c6,Nat.mod_lt _ D.y_pos,by omega⟩
  have hq:=D.f hyy
  have hq2:=D2.f hyy
  obtain⟨t1,t2⟩:=BZ D D2
  rw[<-hLL,<-hyy]at t1 t2
  rw[<-hyy]at hq hq2
  have hy1p:0<y1:=hq.p1
  have hmq:u/y1*y1<18446744073709551616:=Nat.lt_of_le_of_lt (Nat.div_mul_le_self u y1) hul
  have hrm:u-u/y1*y1=u%y1:=by have:=Nat.div_add_mod' u y1;omega
  rw[aq (show(y1:Int)≠0 by omega),bU,aE,quoN hul,Fu hmq,subN (Nat.div_mul_le_self u y1) hul,hrm]
  exact FW hq hq2 hs63 (t1.symm.trans nd.1) (by rw[<-t2];exact nd.2) rfl
def FP:List UInt8:=[114,109,105,48]
def sG (k:Int)(c:UInt8):Prop:=k=1/\c=114\/k=2/\c=109\/k=3/\c=105\/k=0/\c=48
instance (k:Int) (c:UInt8):Decidable (sG k c):=by unfold sG;infer_instance
def xc (kd ks:Int)(q:List UInt8):Bool:=match q with
 |[a,b]=>decide (sG kd a)&&decide (sG ks b)
 |_=>false
def fz (n:Nat):List Int×List UInt8:=match sC (((n:Int),()),())with
 |some x=>(x.1.1,x.1.2.1)
 |none=>([],[])
def szK (n:Nat):Nat:=if n<=16\/n=18\/n=19\/(20<=n/\n<=24)\/n=28 then 0 else if n=17\/n=25\/n=26\/n=27\/n=36\/n=39\/n=40 then 1 else if 29<=n/\n<=32 then 2 else if n=35\/n=41\/n=42 then 3 else 4
def szL (k:Nat):List Int:=if k=0 then [1,2,4,8]else if k=1 then [2,4,8]else if k=2 then [8]else if k=3 then [1]else [0]
def prK (n:Nat):List (List UInt8):=
 if n<=9 then [[114,114],[109,114],[114,109],[114,105],[109,105]]
 else if n=10\/(20<=n/\n<=24)then [[114,114],[109,114],[114,105],[109,105]]
 else if n=28 then [[114,114],[109,114]]
 else if n=11\/n=12\/n=18\/n=19\/n=30\/n=35 then [[114,48],[109,48]]
 else if 13<=n/\n<=16 then [[48,114],[48,109]]
 else if n=17\/n=36\/n=26\/n=27 then [[114,114],[114,109]]
 else if n=25 then [[114,109]]
 else if n=29\/n=31\/n=32 then [[48,114],[48,109],[48,105]]
 else if n=33\/n=44 then [[48,105]]
 else [[48,48]]
def r8 (r z:Int):Prop:=0<=r/\r<=15\/z=1/\16<=r/\r<=19
def opB (k r b i s d m z:Int):Prop:=
 k=1/\b=0/\i=0/\s=0/\d=0/\m=0/\r8 r z\/Ci k r b i s d m\/k=3/\r=0/\b=0/\i=0/\s=0/\d=0\/k=0/\r=0/\b=0/\i=0/\s=0/\d=0/\m=0
instance (r z:Int):Decidable (r8 r z):=by unfold r8;infer_instance
instance (k r b i s d m z:Int):Decidable (opB k r b i s d m z):=by unfold opB;infer_instance
set_option maxHeartbeats 4000000
set_option linter.unusedSimpArgs false
theorem aE {α:Type}{x y:α}:br true x y=x:=rfl
def yn (v z:Int):Bool:=fitsB v (gI z 4)
section
variable (x:Ins)
theorem Dr:yA (dX x ())=x:=rfl
end
def xL (x:Ins)(n:Nat):Bool:=
 if n<=8\/n=10 then yn x.src.imm x.size
 else if n=9 then decide (x.size=8/\x.dst.kind=1)||yn x.src.imm x.size
 else if 20<=n/\n<=24 then decide (¬(x.src.kind=1/\x.src.reg≠1)/\0<=x.src.imm/\x.src.imm<=255)
 else if n=26 then decide (x.frm=1\/x.frm=2/\2<x.size)
 else if n=27 then decide (x.frm=1\/x.frm=2/\2<x.size\/x.frm=4/\x.size=8)
 else if n=29\/n=31\/n=32\/n=33 then yn x.src.imm 4
 else if n=44 then decide (0<=x.src.imm/\x.src.imm<=255)
 else true
def shB (x:Ins)(n:Nat):Bool:=decide (x.size∈szL (szK n))&&((prK n).any (xc x.dst.kind x.src.kind)&&xL x n)
set_option synthInstance.maxSize 40000
set_option synthInstance.maxHeartbeats 4000000
def Ic (k r b i z:Int):Prop:=k=1/\(8<=r/\r<=15\/z=1/\4<=r/\r<=7)\/k=2/\(8<=b/\b<=15\/8<=i)
instance (k r b i z:Int):Decidable (Ic k r b i z):=by unfold Ic;infer_instance
def noP (k r:Int):Prop:=k=1/\16<=r
instance (k r:Int):Decidable (noP k r):=by unfold noP;infer_instance
def sSz (x:Ins)(n:Nat):Int:=if 20<=n/\n<=24 then 8 else if 0<x.frm then x.frm else x.size
def rS (o:Opd)(z:Int):Prop:=opB o.kind o.reg o.base o.index o.scale o.disp o.imm z
def sN (o:Opd)(z:Int):Prop:=Ic o.kind o.reg o.base o.index z
def Fv (o:Opd):Prop:=noP o.kind o.reg
instance (o:Opd) (z:Int):Decidable (rS o z):=by unfold rS;infer_instance
instance (o:Opd) (z:Int):Decidable (sN o z):=by unfold sN;infer_instance
instance (o:Opd):Decidable (Fv o):=by unfold Fv;infer_instance
def HU (x:Ins)(n:Nat):Prop:=
 0<=x.len/\x.len<=15/\shB x n=true/\((n=26\/n=27)\/x.frm=0)/\((n=33\/n=35\/n=36)\/x.cond=0)/\0<=x.cond/\x.cond<=15/\rS x.dst x.size/\rS x.src (sSz x n)/\
 (¬(Fv x.dst\/Fv x.src)\/¬sN x.dst x.size/\¬sN x.src (sSz x n)/\(x.size≠8\/29<=n/\n<=32))
instance (x:Ins) (n:Nat):Decidable (HU x n):=by unfold HU;infer_instance
def kc (k:Int):Nat:=if k=1 then 1 else if k=2 then 2 else if k=3 then 3 else 0
def Db (x:Ins)(n:Nat):Prop:=if n=26 then x.frm=1\/x.frm=2/\2<x.size else if n=27 then x.frm=1\/x.frm=2/\2<x.size\/x.frm=4/\x.size=8 else x.frm=0
instance (x:Ins) (n:Nat):Decidable (Db x n):=by unfold Db;infer_instance
def iSz (x:Ins)(n:Nat):Int:=if x.frm≠0 then x.frm else if(20<=n/\n<=24)\/x.size=0 then 8 else x.size
def hiP (o:Opd):Prop:=o.kind=1/\16<=o.reg/\o.reg<=19
instance (o:Opd):Decidable (hiP o):=by unfold hiP;infer_instance
def askP (o:Opd)(z:Int):Prop:=o.kind=1/\(8<=o.reg/\o.reg<=15\/z=1/\4<=o.reg/\o.reg<=7)\/o.kind=2/\(8<=o.base/\o.base<=15\/8<=o.index/\o.index<=15)
instance (o:Opd) (z:Int):Decidable (askP o z):=by unfold askP;infer_instance
def fixP (n:Nat):Prop:=(29<=n/\n<=34)\/n=37\/n=38\/n=43\/n=44
instance (n:Nat):Decidable (fixP n):=by unfold fixP;infer_instance
def numI (x:Ins)(n:Nat):Bool:=
 if(20<=n/\n<=24)\/n=44 then decide (0<=x.src.imm/\x.src.imm<=255)
 else if n=9/\x.size=8/\x.dst.kind=1 then true
 else if x.size=0 then yn x.src.imm 4 else yn x.src.imm x.size
def insI (x:Ins)(n:Nat):Prop:=
 (0<=x.len/\x.len<=15)/\(0<=x.cond/\x.cond<=15)/\(x.cond=0\/n=33\/n=35\/n=36)/\x.size∈szL (szK n)/\Db x n/\(prK n).any (xc (kc x.dst.kind) (kc x.src.kind))=true/\
 (fq (Fr 1 x.size)/\rS x.dst (Fr 1 x.size))/\(fq (iSz x n)/\rS x.src (iSz x n))/\(x.src.kind=3->numI x n=true)/\(20<=n/\n<=24->x.src.kind=1->x.src.reg=1)/\
 (¬(hiP x.dst\/hiP x.src)\/¬((x.size=8/\¬fixP n)\/askP x.dst x.size\/askP x.src (iSz x n)))
instance (x:Ins) (n:Nat):Decidable (insI x n):=by unfold insI;infer_instance
theorem Ik {n:Nat}{z:Int}(h:z∈szL (szK n)):z=0\/z=1\/z=2\/z=4\/z=8:=by
 unfold szL at h
 repeat' split at h
 all_goals (simp only[List.mem_cons,List.not_mem_nil,or_false]at h;omega)
theorem opB_z {k r b i s d m z z':Int}(h:k≠1):opB k r b i s d m z↔opB k r b i s d m z':=by
 unfold opB
 constructor<;>(rintro(g|g);exact absurd g.1 h;exact .inr g)
theorem wQ:∀n:Nat,n<45->(!((szL (szK n)).any fun z=>decide (z=0))||decide (n=0)||decide (prK n=[[48,105]])||decide (prK n=[[48,48]]))=true:=by decide +kernel
theorem yR (n:Nat)(h:n<45)(h1:1<=n)(hz:(0:Int)∈szL (szK n)):prK n=[[48,105]]\/prK n=[[48,48]]:=by
 have:=wQ n h
 have e:((szL (szK n)).any fun z=>decide (z=0))=true:=List.any_eq_true.2 ⟨0,hz,rfl⟩
 rw[e]at this
 simp only[Bool.not_true,Bool.false_or,Bool.or_eq_true,decide_eq_true_eq]at this
 rcases this with (h|h)|h
 ·omega
 ·exact .inl h
 ·exact .inr h
theorem yD {k:Int}(h:sG k 48):k=0:=by
 unfold sG at h
 rcases h with h|h|h|h
 ·exact absurd h.2 (by decide)
 ·exact absurd h.2 (by decide)
 ·exact absurd h.2 (by decide)
 ·exact h.1
theorem Gl {k:Int}(h:sG k 105):k=3:=by
 unfold sG at h
 rcases h with h|h|h|h
 ·exact absurd h.2 (by decide)
 ·exact absurd h.2 (by decide)
 ·exact h.1
 ·exact absurd h.2 (by decide)
theorem tZ {n:Nat}(h2:n<45)(h1:1<=n){k l:Int}(hs:(0:Int)∈szL (szK n))(ha:(prK n).any (xc k l)=true):k=0/\(l=0\/l=3):=by
 rcases yR n h2 h1 hs with e|e<;>rw[e]at ha<;>simp only[List.any_cons,List.any_nil,Bool.or_false,xc,Bool.and_eq_true,decide_eq_true_eq]at ha
 ·exact⟨yD ha.1,.inr (Gl ha.2)⟩
 ·exact⟨yD ha.1,.inl (yD ha.2)⟩
theorem xx:∀n:Nat,n<45->((szL (szK n)).all fun z=>decide (1<=n->(n<=10->z≠0)/\(20<=n/\n<=24->z≠0)/\((n=33\/n=34\/n=37\/n=38\/n=43\/n=44)->z=0)/\(n=26\/n=27->z≠0)/\(29<=n/\n<=32->z=8)))=true:=by decide +kernel
theorem zf (n:Nat)(h:n<45)(h1:1<=n)(z:Int)(hz:z∈szL (szK n)):(n<=10->z≠0)/\(20<=n/\n<=24->z≠0)/\((n=33\/n=34\/n=37\/n=38\/n=43\/n=44)->z=0)/\(n=26\/n=27->z≠0)/\(29<=n/\n<=32->z=8):=
 of_decide_eq_true (List.all_eq_true.1 (xx n h) z hz) h1
structure Com (x:Ins)(n:Nat):Prop where
 sz:x.size∈szL (szK n)
 any:(prK n).any (xc x.dst.kind x.src.kind)=true
 frm:Db x n
variable {x:Ins}{n:Nat}
theorem Com.dst (h:Com x n)(h1:1<=n)(h2:n<45):(fq (Fr 1 x.size)/\rS x.dst (Fr 1 x.size))↔rS x.dst x.size:=by
 have hs:=Ik h.sz
 by_cases h0:x.size=0
 ·have hk:=tZ h2 h1 (h0▸h.sz) h.any
  have e:Fr 1 x.size=1:=by rw[h0];rfl
  rw[e]
  have:rS x.dst 1↔rS x.dst x.size:=opB_z (by omega)
  rw[this]
  exact⟨fun g=>g.2,fun g=>⟨.inl rfl,g⟩⟩
 ·have e:Fr 1 x.size=x.size:=imax_r (by omega)
  rw[e]
  exact⟨fun g=>g.2,fun g=>⟨by unfold fq;omega,g⟩⟩
theorem Com.sizes (h:Com x n)(h1:1<=n)(h2:n<45):(iSz x n=sSz x n/\fq (iSz x n))\/(x.size=0/\x.src.kind≠1/\x.src.kind≠2/\fq (iSz x n)):=by
 have hs:=Ik h.sz
 obtain⟨_,c2,_,c4,_⟩:=zf n h2 h1 x.size h.sz
 have hf:=h.frm
 unfold Db at hf
 unfold iSz sSz fq
 by_cases hn:20<=n/\n<=24
 ·rw[iN,iN]at hf
  left
  rw[iN,if_pos (.inl hn),if_pos hn]
  omega
 ·by_cases hm:n=26\/n=27
  ·have hfr:x.frm=1\/x.frm=2\/x.frm=4:=by
    rcases hm with hm|hm
    ·rw[if_pos hm]at hf;omega
    ·rw[iN,if_pos hm]at hf;omega
   left
   rw[iP,if_neg hn,iP]
   omega
  ·rw[iN,iN]at hf
   by_cases h0:x.size=0
   ·right
    have hk:=tZ h2 h1 (h0▸h.sz) h.any
    rw[iN,if_pos (.inr h0)]
    omega
   ·left
    rw[iN,iN,if_neg hn,iN]
    omega
theorem Com.src (h:Com x n)(h1:1<=n)(h2:n<45):(fq (iSz x n)/\rS x.src (iSz x n))↔rS x.src (sSz x n):=by
 rcases h.sizes h1 h2 with ⟨e,hz⟩|⟨h0,hk,_,hz⟩
 ·rw[e]at hz|-
  exact⟨fun g=>g.2,fun g=>⟨hz,g⟩⟩
 ·have:rS x.src (iSz x n)↔rS x.src (sSz x n):=opB_z hk
  rw[this]
  exact⟨fun g=>g.2,fun g=>⟨hz,g⟩⟩
variable {x:Ins}{n:Nat}
def lw (t:List UInt8)(a n:Int):Int:=IntKind.wrap .i64 (leN ((t.drop a.toNat).take n.toNat))
theorem DR {t:List UInt8}{a:Int}(h0:0<=a)(h1:a<t.length):lw t a 1=eH t a:=by
 obtain⟨k,rfl⟩:=Int.eq_ofNat_of_zero_le h0
 have hk:k<t.length:=by omega
 unfold lw
 rw[Int.toNat_natCast,show(1:Int).toNat=0+1 from rfl,uP _ 0 (by simp;omega),m8 hk]
 have hb:t[k].toNat<256:=t[k].toNat_lt
 simp only[List.take_zero,leN,Nat.pow_zero,List.getElem_drop,Nat.add_zero,Nat.zero_add,Nat.mul_one]
 exact dC ⟨by omega,by omega⟩
theorem EB {t:List UInt8}{a n:Int}(h0:0<=a)(hn:0<=n)(h1:a+n<=t.length):((t.drop a.toNat).take n.toNat).length=n.toNat:=by
 rw[List.length_take,List.length_drop];omega
theorem Bf (t:List UInt8)(a n:Int)(hl:(t.length:Int)<=1099511627776)(h0:0<=a)(hn0:0<=n)(hn:n<=8)(h1:a+n<=t.length):
  di ((t,a,n,()),())=some (lw t a n,()):=by
 unfold di
 dsimp only
 rw[bn]
 obtain⟨m,rfl⟩:=Int.eq_ofNat_of_zero_le hn0
 obtain⟨k,rfl⟩:=Int.eq_ofNat_of_zero_le h0
 obtain⟨s,hs⟩:∃s,s=(t.drop k).take m:=⟨_,rfl⟩
 have hsl:s.length=m:=by rw[hs,List.length_take,List.length_drop];omega
 have hg:∀j:Nat,(h:j<s.length)->eH t ((k:Int)+(j:Nat))=(s[j].toNat:Int):=fun j h=>by
  rw[show(k:Int)+(j:Nat)=((k+j:Nat):Int)by omega,m8 (by omega)]
  simp[hs]
 have hlw:lw t k m=IntKind.wrap .i64 (leN s):=by unfold lw;rw[hs];rfl
 rw[hlw]
 refine eD (fun x=>x.1.1=t/\x.1.2.1=(k:Int)/\ -1<=x.1.2.2.2.1/\x.1.2.2.2.1<(m:Int)/\x.1.2.2.1=(leN (s.drop (x.1.2.2.2.1+1).toNat):Int)) (fun x=>(x.1.2.2.2.1+1).toNat) (fun _=>some (IntKind.wrap .i64 (leN s),())) ?_ F _ ?_ ?_
 ·rintro⟨⟨u,z,v,i,_⟩,_⟩ rec ⟨h2,hz,h3,h4,h5⟩ hrec
  dsimp only at hz h2 h3 h4 h5 hrec|-
  subst hz h2
  by_cases hi:0<=i
  ·obtain⟨j,rfl⟩:=Int.eq_ofNat_of_zero_le hi
   have hj:j<s.length:=by omega
   have hlt:=Aa (s.drop (j+1))
   have hb:s[j].toNat<256:=s[j].toNat_lt
   have hpow:256^(s.drop (j+1)).length<=256^7:=Nat.pow_le_pow_right (by decide) (by rw[List.length_drop];omega)
   rw[show(256:Nat)^7=72057594037927936 from rfl]at hpow
   rw[show((j:Int)+1).toNat=j+1 by omega]at h5
   rw[ae (fu hi),aH,ae (cA (by omega) (by rw[aV];omega)),hg j hj]
   rw[hrec _ ⟨rfl,rfl,?_,?_,?_⟩ ?_]
   ·dsimp only;rw[bn];omega
   ·dsimp only;rw[bn];omega
   ·dsimp only
    rw[bn,show((j:Int)-1+1).toNat=j by omega,z7 s j hj,h5]
    rw[Gz,cJ,FH]
    omega
   ·dsimp only;rw[bn];omega
  ·obtain rfl:i= -1:=by omega
   rw[ag (j9 hi),h5]
   rfl
 ·refine⟨rfl,rfl,by dsimp only;omega,by dsimp only;omega,?_⟩
  dsimp only
  rw[show((m:Int)-1+1).toNat=s.length by omega,List.drop_length]
  rfl
 ·simp[F];omega
abbrev Pos:=Except Int Int
def aI (at' code:Int):Pos:=if code=0 then .ok at' else .error code
def Pos.In (p:Pos)(t:List UInt8):Prop:=∀a,p= .ok a->0<=a/\a<=t.length
def exb {α β:Type}(x:Except Int α)(f:α->Except Int β):Except Int β:=match x with
 | .ok a=>f a
 | .error c=> .error c
def adv (t:List UInt8)(n:Int)(p:Pos):Pos:=exb p fun a=>if a+n<=t.length then .ok (a+n)else .error 9
def rdU (t:List UInt8)(n:Int)(p:Pos):Int:=match p with
 | .ok a=>if a+n<=t.length then lw t a n else 0
 | .error _=>0
def rdS (t:List UInt8)(n:Int)(p:Pos):Int:=sx (8*n-1).toNat (rdU t n p)
theorem dw {a:Int}:aI a 0= .ok a:=rfl
theorem cT {a c:Int}(h:c≠0):aI a c= .error c:=if_neg h
theorem Pos.In.adv {t:List UInt8}{n:Int}{p:Pos}(h:p.In t)(hn:0<=n):(Go.Den.G.adv t n p).In t:=by
 intro a ha
 unfold Go.Den.G.adv exb at ha
 cases p with
 |error c=>cases ha
 |ok b=>
  dsimp only at ha
  obtain⟨h0,h1⟩:=h b rfl
  split at ha
  ·cases ha;omega
  ·cases ha
theorem sx_0 (m:Nat):sx m 0=0:=by
 unfold sx
 rw[show(0:Int)%2^64=0 from rfl,Int.zero_ediv,iD,Int.zero_emod]
theorem Gu (t:List UInt8)(a n:Int):I64 (lw t a n):=au _
section
variable {t:List UInt8}{a c:Int}
theorem AT:∀n:Nat,n<256->cu .i64 (n:Int) 6=(n:Int)/64/\cz .i64 (cu .i64 (n:Int) 3) 7=(n:Int)/8%8/\cz .i64 (n:Int) 7=(n:Int)%8/\cz .i64 (n:Int) 15=(n:Int)%16:=by decide +kernel
theorem bI {b:Int}(h0:0<=b)(h1:b<256):cu .i64 b 6=b/64/\cz .i64 (cu .i64 b 3) 7=b/8%8/\cz .i64 b 7=b%8/\cz .i64 b 15=b%16:=by
 obtain⟨n,rfl⟩:=Int.eq_ofNat_of_zero_le h0
 exact AT n (by omega)
theorem le (t:List UInt8)(a:Int):0<=eH t a/\eH t a<256:=by
 unfold eH
 have:=(t.getD a.toNat 0).toNat_lt
 omega
theorem dK (t:List UInt8)(p:Pos)(hp:p.In t):0<=rdU t 1 p/\rdU t 1 p<256:=by
 unfold rdU
 cases p with
 |error _=>simp
 |ok b=>
  obtain⟨h0,h1⟩:=hp b rfl
  dsimp only
  split
  ·rw[DR h0 (by omega)];exact le t b
  ·simp
theorem iv (b:Bool)(k:Int)(r:_):aK ((b,k,()),(t,a,c,r),())=some ((),(t,a,(if b=true/\c=0 then k else c),r),()):=by
 unfold aK
 dsimp only
 cases b with
 |false=>rw[ak,aa,ak];simp
 |true=>
  rw[aE,aa]
  by_cases h:c=0
  ·rw[ae (be h)];simp[h]
  ·rw[ag (aq h)];simp[h]
theorem Ff {b:Bool}{k:Int}(hk:k≠0):aI a (if b=true/\c=0 then k else c)=exb (aI a c) fun x=>if b=true then .error k else .ok x:=by
 unfold aI
 by_cases h:c=0
 ·subst h
  cases b with
  |false=>simp[exb]
  |true=>simp[exb,hk]
 ·rw[if_neg (show ¬(b=true/\c=0)from fun g=>h g.2),if_neg h];rfl
theorem take_lw {t:List UInt8}{a n:Int}(h0:0<=a)(hn0:1<=n)(hn:n<=8)(h1:a+n<=t.length):fY ((jX (iL t (a+n)) a,()),())=some (lw t a n,()):=by
 have e:jX (iL t (a+n)) a=(t.drop a.toNat).take n.toNat:=by
  unfold jX iL
  rw[List.drop_take]
  congr 1;omega
 rw[e,EX _ (by rw[EB h0 (by omega) h1];omega)]
 rfl
theorem kx (n:Int)(r:_)(h1:1<=n)(h8:n<=8)(hl:(t.length:Int)<=1099511627776)(hp:(aI a c).In t):
  ∃a' c',aM ((n,()),(t,a,c,r),())=some (rdU t n (aI a c),(t,a',c',r),())/\aI a' c'=adv t n (aI a c):=by
 unfold aM
 dsimp only
 rw[iv,aa]
 dsimp only
 by_cases hc:c=0
 ·subst hc
  obtain⟨p0,p1⟩:=hp a dw
  rw[dw,aH]
  unfold rdU adv exb
  dsimp only
  by_cases hn:a+n<=t.length
  ·rw[fM (by rw[aV];omega)]
   rw[if_neg (by simp),show aQ (eqI 0 0)=false from rfl,ak,ae (mC (by omega) (by rw[aV];omega)),bn,show a+n-n=a by omega,ae (mC),take_lw p0 h1 h8 hn,aa]
   exact⟨a+n,0,by rw[if_pos hn],by rw[if_pos hn];rfl⟩
  ·rw[fv (by rw[aV];omega)]
   rw[if_pos ⟨rfl,rfl⟩,show aQ (eqI 9 0)=true from rfl,aE]
   exact⟨a,9,by rw[if_neg hn],by rw[if_neg hn];rfl⟩
 ·rw[if_neg (fun g=>hc g.2),aq hc,bU,aE,cT hc]
  exact⟨a,c,rfl,by rw[cT hc];rfl⟩
theorem fN (n:Int)(r:_)(h1:1<=n)(h8:n<=8)(hl:(t.length:Int)<=1099511627776)(hp:(aI a c).In t):
  ∃a' c',bc ((n,()),(t,a,c,r),())=some (rdS t n (aI a c),(t,a',c',r),())/\aI a' c'=adv t n (aI a c):=by
 obtain⟨a',c',e,h⟩:=kx n r h1 h8 hl hp
 unfold bc
 rw[e,aa]
 dsimp only
 rw[kW _ _ h1 h8,aa]
 exact⟨a',c',rfl,h⟩
end
def oi (x:Int):Prop:=x=0\/64<=x/\x<=79
def jL (x:Int)(k:Nat):Int:=8*(x/2^k%2)
def k7 (x r z:Int):Int:=if z=1/\x=0/\4<=r then r+12 else r
def qp (r:Int):Opd:=⟨1,r,0,0,0,0,0⟩
def wq (n:Int):Opd:=⟨3,0,0,0,0,0,n⟩
def memD (b i s d:Int):Opd:=⟨2,0,b,i,s,d,0⟩
def lD (mod rm b:Int):Int:=if mod=2 then 4 else if mod=1 then 1 else if mod=0/\(rm=4/\b%8=5\/rm=5)then 4 else 0
def Cg (t:List UInt8)(w:Int)(p:Pos):Int:=if w=0 then 0 else rdS t w p
def CO (t:List UInt8)(w:Int)(p:Pos):Pos:=if w=0 then p else adv t w p
def Ch (t:List UInt8)(x mod rm:Int)(p:Pos):Opd×Pos:=
 if rm=4 then
  (memD (if mod=0/\rdU t 1 p%8=5 then -1 else rdU t 1 p%8+jL x 0)
   (if rdU t 1 p/8%8+jL x 1=4 then -1 else rdU t 1 p/8%8+jL x 1)
   (if rdU t 1 p/8%8+jL x 1=4 then 1 else 2^(rdU t 1 p/64).toNat)
   (Cg t (lD mod rm (rdU t 1 p)) (adv t 1 p)),CO t (lD mod rm (rdU t 1 p)) (adv t 1 p))
 else if rm=5/\mod=0 then(memD 16 (-1) 1 (Cg t 4 p),CO t 4 p)
 else(memD (rm+jL x 0) (-1) 1 (Cg t (lD mod rm 0) p),CO t (lD mod rm 0) p)
def plM (t:List UInt8)(x m z:Int)(p:Pos):Opd×Pos:=
 if m/64=3 then(qp (k7 x (m%8+jL x 0) z),p)else Ch t x (m/64) (m%8) p
theorem Hf:∀n:Nat,n<16->∀k:Nat,k<4->dD .i64 (cz .i64 (cu .i64 (n:Int) (k:Int)) 1) 3=8*((n:Int)/2^k%2):=by decide +kernel
theorem ext_mod {x:Int}{k:Nat}(hk:k<4):8*(x%16/2^k%2)=jL x k:=by
 unfold jL
 have:k=0\/k=1\/k=2\/k=3:=by omega
 rcases this with rfl|rfl|rfl|rfl
 ·rw[show(2:Int)^0=1 from rfl];omega
 ·rw[show(2:Int)^1=2 from rfl];omega
 ·rw[show(2:Int)^2=4 from rfl];omega
 ·rw[show(2:Int)^3=8 from rfl];omega
theorem qY {x:Int}{k:Nat}(hk:k<4):jL x k=0/\(x≠0\/x=0)\/jL x k=8/\x≠0:=by
 unfold jL
 have:k=0\/k=1\/k=2\/k=3:=by omega
 rcases this with rfl|rfl|rfl|rfl
 ·rw[show(2:Int)^0=1 from rfl];omega
 ·rw[show(2:Int)^1=2 from rfl];omega
 ·rw[show(2:Int)^2=4 from rfl];omega
 ·rw[show(2:Int)^3=8 from rfl];omega
section
variable {t:List UInt8}{a c:Int}
theorem ug {x:Int}(k:Nat)(hk:k<4)(nw hr:Bool)(r:_):
  aP (((k:Int),()),(t,a,c,nw,x%16,hr,r),())=some (jL x k,(t,a,c,nw,x%16,hr,r),()):=by
 unfold aP
 dsimp only
 rw[ae (fu)]
 have h16:0<=x%16/\x%16<16:=by omega
 have:=Hf (x%16).toNat (by omega) k hk
 rw[Int.toNat_of_nonneg h16.1]at this
 rw[this,ext_mod hk]
theorem ye {x:Int}{n z:Int}(hn:0<=n)(hn15:n<=15)(h7:x=0->n<=7)(nw:Bool)(r:_):
  bF ((n,z,()),(t,a,c,nw,x%16,decide (x≠0),r),())=some (c9 (qp (k7 x n z)) (),(t,a,c,nw,x%16,decide (x≠0),r),()):=by
 unfold bF fi
 dsimp only[p5]
 simp only[bD,aa]
 have key:∀u:Bool,(u=true↔(z=1/\x=0/\4<=n))->(br u (some (n+12)) (some n))=some (k7 x n z):=fun u hu=>by
  unfold k7
  cases u with
  |true=>rw[if_pos (hu.1 rfl)];rfl
  |false=>rw[if_neg (fun g=>by have:=hu.2 g;cases this)];rfl
 by_cases h1:z=1
 ·rw[ae (be h1),aa]
  by_cases h2:x=0
  ·rw[show aQ (decide (x≠0))=true by simp[h2,aQ],aE]
   by_cases h3:4<=n
   ·rw[decide_eq_true (show 4<=n/\n<=7 from⟨h3,h7 h2⟩),aa,aE,aa,ah,aH]
    unfold k7
    rw[if_pos ⟨h1,h2,h3⟩];rfl
   ·rw[decide_eq_false (show ¬(4<=n/\n<=7)from fun g=>h3 g.1),aa,ak,aa,ah]
    unfold k7
    rw[if_neg (fun g=>h3 g.2.2)];rfl
  ·rw[show aQ (decide (x≠0))=false by simp[h2,aQ],ak,aa,ak,aa,ah]
   unfold k7
   rw[if_neg (fun g=>h2 g.2.1)];rfl
 ·rw[ag (aq h1),aa,ak,aa,ak,aa,ah]
  unfold k7
  rw[if_neg (fun g=>h1 g.1)];rfl
end
section
variable {t:List UInt8}{a c x:Int}{w:Bool}
theorem qK (k:Int):bY ((k,()),(t,a,x,w,c,()),())=some ((),(t,a,x,w,if c=0 then k else c,()),()):=by
 unfold bY
 dsimp only
 by_cases h:c=0
 ·rw[ae (be h),if_pos h]
 ·rw[ag (aq h),if_neg h]
theorem gM (n:Int)(h1:1<=n)(h8:n<=8)(hl:(t.length:Int)<=1099511627776)(hp:(aI a c).In t):
  ∃a' c',bf ((n,()),(t,a,x,w,c,()),())=some (rdS t n (aI a c),(t,a',x,w,c',()),())/\aI a' c'=adv t n (aI a c):=by
 unfold bf
 dsimp only
 by_cases hc:c=0
 ·subst hc
  obtain⟨p0,p1⟩:=hp a dw
  rw[show aQ (eqI 0 0)=false from rfl,ak,dw,bn (by rw[aV];omega) (by rw[aV];omega)]
  unfold rdS rdU adv exb
  dsimp only
  by_cases hn:a+n<=t.length
  ·rw[ag (fM (by rw[aV];omega)),aH,bn,show a+n-n=a by omega,Bf t a n hl p0 (by omega) h8 hn,aa]
   dsimp only
   rw[gJ _ _ h1 h8,aa]
   exact⟨a+n,0,by rw[if_pos hn],by rw[if_pos hn];rfl⟩
  ·rw[ae (fv (by rw[aV];omega)),qK,aa]
   rw[if_pos rfl]
   exact⟨a,9,by rw[if_neg hn,sx_0],by rw[if_neg hn];rfl⟩
 ·rw[aq hc,bU,aE,cT hc]
  exact⟨a,c,by unfold rdS rdU;dsimp only;rw[sx_0],by rw[cT hc];rfl⟩
theorem ES {b:Int}(h0:0<=b)(h1:b<256):bV (sx 7 b) 1=b:=by
 unfold bV sx
 rw[iD]
 rw[show(2:Int)^(7+1)=256 from rfl]
 split<;>omega
theorem iF (m:Nat)(hm:m<=63)(v:Int):I64 (sx m v):=by
 unfold sx
 have hp:(0:Int)<2^(m+1):=Int.pow_pos (by decide)
 have h1:=Int.emod_nonneg v (Int.ne_of_gt hp)
 have h2:=Int.emod_lt_of_pos v hp
 have hd:(2:Int)^(m+1)=2^m*2:=Int.pow_succ 2 m
 have hm3:(2:Int)^m<=2^63:=by
  have h:=Nat.pow_le_pow_right (show 0<2 by decide) hm
  have e1:((2^m:Nat):Int)=(2:Int)^m:=by simp
  have e2:((2^63:Nat):Int)=(2:Int)^63:=by simp
  rw[<-e1,<-e2];exact Int.ofNat_le.2 h
 have hb:v%2^64/2^m%2=v%2^(m+1)/2^m:=by
  have h64:(2:Int)^(m+1)*2^(63-m)=2^64:=by rw[<-Int.pow_add];congr 1;omega
  have h1:v%2^(m+1)=v%2^64%2^(m+1):=by
   rw[Int.emod_emod_of_dvd]
   exact⟨2^(63-m),h64.symm⟩
  rw[h1,Int.pow_succ 2 m]
  have hu:=bt v
  rw[<-hu]
  have:((2:Int)^m)=((2^m:Nat):Int):=by simp
  rw[this]
  have h2:((2^m:Nat):Int)*2=((2^m*2:Nat):Int):=by simp
  rw[h2]
  rw[<-Int.natCast_ediv,<-Int.natCast_emod,<-Int.natCast_ediv,Nat.mod_mul_right_div_self]
  simp
 rw[hb]
 have hpm:(0:Int)<2^m:=Int.pow_pos (by decide)
 generalize v%2^(m+1)=r at*
 unfold I64
 by_cases hs:(2:Int)^m<=r
 ·have hq:r/2^m=1:=by
   rw[Int.ediv_eq_iff_of_pos hpm];omega
  rw[hq,if_pos rfl];omega
 ·have hq:r/2^m=0:=Int.ediv_eq_zero_of_lt h1 (by omega)
  rw[hq,iD];omega
theorem ls (hl:(t.length:Int)<=1099511627776)(hp:(aI a c).In t):
  ∃a' c',bq ((),(t,a,x,w,c,()),())=some (rdU t 1 (aI a c),(t,a',x,w,c',()),())/\aI a' c'=adv t 1 (aI a c):=by
 obtain⟨a',c',e,h⟩:=gM (x:=x) (w:=w) 1 (by decide) (by decide) hl hp
 have hr:=dK t (aI a c) hp
 unfold bq
 dsimp only
 rw[e,aa]
 dsimp only
 rw[show rdS t 1 (aI a c)=sx 7 (rdU t 1 (aI a c))from rfl]
 have hz:=bw (iF 7 (by decide) (rdU t 1 (aI a c))) 1 rfl
 rw[ES hr.1 hr.2]at hz
 rw[show((1:Nat):Int)=1 from rfl]at hz
 rw[hz,aa]
 exact⟨a',c',rfl,h⟩
theorem zd (hx:oi x)(k:Nat)(hk:k<4):bm (((k:Int),()),(t,a,x,w,c,()),())=some (jL x k,(t,a,x,w,c,()),()):=by
 unfold bm
 dsimp only
 rw[mF _ _ (by omega) (by omega),aa]
 have h1:x%2^64=x:=Int.emod_eq_of_lt (by unfold oi at hx;omega) (by unfold oi at hx;omega)
 rw[h1,Int.toNat_natCast]
 have h2:=qY (x:=x) hk
 unfold jL at h2
 unfold jL
 rw[cX]
theorem zh {n z:Int}(hn:0<=n)(hn15:n<=15):cW ((n,z,()),(t,a,x,w,c,()),())=some (c9 (qp (k7 x n z)) (),(t,a,x,w,c,()),()):=by
 unfold cW
 dsimp only
 by_cases h1:z=1
 ·rw[ae (be h1),aa]
  by_cases h2:x=0
  ·rw[ae (be h2),aa]
   by_cases h3:4<=n
   ·rw[ae (fu h3),aa,ah,aH]
    unfold k7
    rw[if_pos ⟨h1,h2,h3⟩];rfl
   ·rw[ag (j9 h3),aa,ah]
    unfold k7
    rw[if_neg (fun g=>h3 g.2.2)];rfl
  ·rw[ag (aq h2),aa,ak,aa,ah]
   unfold k7
   rw[if_neg (fun g=>h2 g.2.1)];rfl
 ·rw[ag (aq h1),aa,ak,aa,ak,aa,ah]
  unfold k7
  rw[if_neg (fun g=>h1 g.1)];rfl
end
def nX (n:Nat)(hi lo:Int):Nat:=cg hi n*2^(8*n)+cg lo n
def oD (sg:Bool)(n:Nat)(hi lo:Int):Int:=if sg=true/\2^(16*n-1)<=nX n hi lo then(nX n hi lo:Int)-2^(16*n)else(nX n hi lo:Int)
theorem lC (n:Nat)(hi lo:Int):nX n hi lo<2^(16*n):=by
 have h1:=gO hi n
 have h2:=gO lo n
 unfold nX
 rw[show 16*n=8*n+8*n by omega,Nat.pow_add]
 generalize 2^(8*n)=P at*
 have:(cg hi n+1)*P<=P*P:=Nat.mul_le_mul_right _ h1
 rw[Nat.add_mul]at this
 omega
theorem CK (hi lo:Int):nX 8 hi lo=uns hi*18446744073709551616+uns lo:=by
 unfold nX cg
 rw[show(2:Nat)^(8*8)=18446744073709551616 from rfl,Nat.mod_eq_of_lt (eJ hi),Nat.mod_eq_of_lt (eJ lo)]
theorem join_n {n:Nat}(hn:n=1\/n=2\/n=4){hi lo:Int}(hh:I64 hi)(hl:I64 lo):ior .i64 (dD .i64 (bV hi n) (8*(n:Int))) (bV lo n)=IntKind.wrap .i64 (nX n hi lo):=by
 have hs:cl (n:Int)=true:=by rcases hn with rfl|rfl|rfl<;>rfl
 refine j6 (ly ..) (au _) ?_
 have e8:8*(n:Int)=((8*n:Nat):Int):=by omega
 have hlt:=lC n hi lo
 have h32:2^(16*n)<=2^64:=Nat.pow_le_pow_right (by decide) (by omega)
 have hu:uns (dD .i64 (bV hi n) ((8*n:Nat):Int))=cg hi n*2^(8*n):=by
  unfold dD
  rw[b8,Int.toNat_natCast,show min (8*n) IntKind.i64.bits=8*n by simp[IntKind.bits];omega]
  have:0<=bV hi n:=by
   unfold bV
   rw[iN]
   exact Int.emod_nonneg _ (Int.ne_of_gt (Int.pow_pos (by decide)))
  have h3:=bt (bV hi n)
  rw[cB hh hs]at h3
  have hI:=eM hh hs
  unfold I64 at hI
  have h4:bV hi n=(cg hi n:Int):=by omega
  rw[h4,<-kY,<-Int.natCast_mul,fg]
  refine Nat.lt_of_le_of_lt ?_ (Nat.lt_of_lt_of_le hlt h32)
  exact Nat.le_add_right _ _
 rw[mV,e8,hu,cB hl hs,b8,fg (Nat.lt_of_lt_of_le hlt h32)]
 unfold nX
 rw[Nat.mul_comm,Nat.two_pow_add_eq_or_of_lt (gO lo n)]
theorem bit_top {N m:Nat}(h:N<2^(m+1)):N/2^m%2=1↔2^m<=N:=by
 have hp:=Nat.two_pow_pos m
 rw[Nat.pow_succ]at h
 have h1:N/2^m<2:=Nat.div_lt_of_lt_mul h
 have h2:1<=N/2^m↔2^m<=N:=by rw[Nat.le_div_iff_mul_le hp,Nat.one_mul]
 generalize N/2^m=q at*
 omega
theorem sx_nat {N m:Nat}(hm:m<=63)(h:N<2^(m+1)):sx m (IntKind.wrap .i64 (N:Int))=if 2^m<=N then(N:Int)-2^(m+1)else(N:Int):=by
 have h64:N<2^64:=Nat.lt_of_lt_of_le h (Nat.pow_le_pow_right (by decide) (by omega))
 have hu:IntKind.wrap .i64 (N:Int)%2^64=(N:Int):=by rw[<-bt,b8,fg h64]
 have hd:(2:Int)^(m+1)∣2^64:=⟨2^(63-m),by rw[<-Int.pow_add];congr 1;omega⟩
 have hl:IntKind.wrap .i64 (N:Int)%2^(m+1)=(N:Int):=by
  rw[<-Int.emod_emod_of_dvd _ hd,hu,<-kY,<-Int.natCast_emod,Nat.mod_eq_of_lt h]
 unfold sx
 rw[hu,hl]
 have e:((N:Int)/2^m%2=1)↔(2^m<=N):=by
  rw[<-bit_top h,<-kY,<-Int.natCast_ediv];omega
 simp only[e]
theorem Ez {v:Int}(hv:I64 v):cu .i64 v 63=if v<0 then -1 else 0:=by
 unfold I64 at hv
 unfold cu
 show Int.fdiv v (2^63)=_
 rw[Int.fdiv_eq_ediv_of_nonneg _ (by decide)]
 split<;>omega
theorem FU {n:Nat}(hn:n=1\/n=2\/n=4)(hi lo:Int):I64 (oD true n hi lo)/\oD true n hi lo=sx (16*n-1) (IntKind.wrap .i64 (nX n hi lo)):=by
 have e:oD true n hi lo=sx (16*n-1) (IntKind.wrap .i64 (nX n hi lo)):=by
  have hlt:=lC n hi lo
  rw[sx_nat (by omega) (by rw[show 16*n-1+1=16*n by omega];exact hlt)]
  unfold oD
  rw[show 16*n-1+1=16*n by omega]
  simp only[true_and]
 refine⟨?_,e⟩
 rw[e]
 exact iF _ (by omega) _
theorem Dj {n:Nat}{hi lo:Int}(hn:cl (n:Int)=true)(hh:I64 hi)(hl:I64 lo)(sg:Bool):
  ∃h l,iR (((n:Int),hi,lo,sg,()),())=some ((h,l,()),())/\I64 h/\I64 l/\
   ((uns h:Int)*18446744073709551616+uns l=if oD sg n hi lo<0 then oD sg n hi lo+340282366920938463463374607431768211456 else oD sg n hi lo)/\(sg=true->(h<0↔oD sg n hi lo<0)):=by
 unfold iR
 dsimp only
 by_cases h8:n=8
 ·subst h8
  rw[be (by rfl),aE]
  refine⟨hi,lo,rfl,hh,hl,?_,?_⟩
  ·have hN:=CK hi lo
   have h1:=eJ hi
   have h2:=eJ lo
   unfold oD
   rw[show(2:Nat)^(16*8-1)=170141183460469231731687303715884105728 from rfl,show(2:Int)^(16*8)=340282366920938463463374607431768211456 from rfl]
   have hlt:nX 8 hi lo<340282366920938463463374607431768211456:=lC 8 hi lo
   by_cases hc:sg=true/\170141183460469231731687303715884105728<=nX 8 hi lo
   ·rw[if_pos hc];omega
   ·rw[if_neg hc];omega
  ·rintro rfl
   have hN:=CK hi lo
   have h1:=bt hi
   have h2:=eJ lo
   unfold oD
   rw[show(2:Nat)^(16*8-1)=170141183460469231731687303715884105728 from rfl,show(2:Int)^(16*8)=340282366920938463463374607431768211456 from rfl]
   have hlt:nX 8 hi lo<340282366920938463463374607431768211456:=lC 8 hi lo
   unfold I64 at hh
   simp only[true_and]
   by_cases hc:170141183460469231731687303715884105728<=nX 8 hi lo
   ·rw[if_pos hc];omega
   ·rw[if_neg hc];omega
 ·have h3:n=1\/n=2\/n=4:=by rcases xN hn with h|h|h|h<;>omega
  rw[aq (show(n:Int)≠8 by omega),ak,bQ _ n hn,bQ _ n hn,aa,aa]
  dsimp only
  rw[cX (a:=8),ae (fu),join_n h3 hh hl]
  cases sg with
  |true=>
   rw[aE,cX (a:=2),kW _ _ (by omega) (by omega),aa]
   dsimp only
   rw[show(8*(2*(n:Int))-1).toNat=16*n-1 by omega]
   obtain⟨hI,he⟩:=FU h3 hi lo
   rw[<-he]
   generalize oD true n hi lo=X at*
   refine⟨_,_,rfl,by rw[Ez hI];split<;>(unfold I64;omega),hI,?_,?_⟩
   ·rw[Ez hI]
    have hc:=bt X
    unfold I64 at hI
    by_cases hX:X<0
    ·rw[if_pos hX,if_pos hX,show uns (-1)=18446744073709551615 from rfl];omega
    ·rw[if_neg hX,if_neg hX,show uns 0=0 from rfl];omega
   ·intro _
    rw[Ez hI]
    by_cases hX:X<0
    ·rw[if_pos hX];omega
    ·rw[if_neg hX];omega
  |false=>
   rw[ak]
   refine⟨_,_,rfl,by unfold I64;omega,au _,?_,fun h=>by cases h⟩
   have hlt:=lC n hi lo
   have h64:nX n hi lo<2^64:=Nat.lt_of_lt_of_le hlt (Nat.pow_le_pow_right (by decide) (by omega))
   rw[b8,fg h64]
   have e:oD false n hi lo=(nX n hi lo:Int):=if_neg (fun h=>by cases h.1)
   rw[e,iN,show uns 0=0 from rfl]
   omega
theorem yZ {h l:Int}:∃h' l',fX ((h,l,()),())=some ((h',l',()),())/\I64 h'/\I64 l'/\
  (uns h':Int)*18446744073709551616+uns l'=(340282366920938463463374607431768211456-((uns h:Int)*18446744073709551616+uns l))%340282366920938463463374607431768211456:=by
 have hh:=eJ h
 have hl:=eJ l
 have hu:∀v,vC (aj .u64 v)=true:=fun v=>by
  rw[eI]
  have:=eJ v
  exact dT
 unfold fX
 dsimp only
 rw[hu,hu,show vC 0=true from rfl,show Ce 0=true from rfl,aE,aE,aE,aE,aE]
 have hc:Ce (mp 0 (aj .u64 l) 0)=true:=by
  unfold mp Ce
  split<;>rfl
 rw[hc,aE,eI,eI]
 refine⟨_,_,rfl,au _,au _,?_⟩
 unfold aj
 have e:∀z:Int,((uns (z%18446744073709551616):Nat):Int)=z%18446744073709551616:=fun z=>by
  rw[bt,show(2:Int)^64=18446744073709551616 from rfl];omega
 rw[b8,b8]
 unfold nR mp
 rw[e,e]
 generalize uns h=a at*
 generalize uns l=b at*
 split<;>omega
theorem t5 {h l d:Int}:
  eP ((h,l,d,()),())=some (if uns d<=uns h then((0,0,16,()),())else((IntKind.wrap .i64 (((uns h*18446744073709551616+uns l)/uns d:Nat):Int),IntKind.wrap .i64 (((uns h*18446744073709551616+uns l)%uns d:Nat):Int),0,()),())):=by
 unfold eP dE
 dsimp only
 rw[aa,eI,eI,eI]
 dsimp only
 by_cases hc:uns d<=uns h
 ·rw[fM,bU,aE,if_pos hc]
 ·rw[fv,bE,ak,FA (by omega) (eJ d) (eJ l),aa,if_neg hc]
  rfl
theorem ET {n:Nat}(hn:cl (n:Int)=true)(d:Int):sx (8*n-1) (bV d n)=sx (8*n-1) d:=by
 have h18:=dL hn
 unfold bV
 by_cases h8:n=8
 ·rw[if_pos h8]
 ·rw[if_neg h8]
  have h3:n=1\/n=2\/n=4:=by rcases xN hn with h|h|h|h<;>omega
  unfold sx
  rcases h3 with rfl|rfl|rfl
  ·rw[show(2:Int)^(8*1-1+1)=256 from rfl,show(2:Int)^(8*1-1)=128 from rfl,show(2:Int)^64=18446744073709551616 from rfl]
   split<;>split<;>omega
  ·rw[show(2:Int)^(8*2-1+1)=65536 from rfl,show(2:Int)^(8*2-1)=32768 from rfl,show(2:Int)^64=18446744073709551616 from rfl]
   split<;>split<;>omega
  ·rw[show(2:Int)^(8*4-1+1)=4294967296 from rfl,show(2:Int)^(8*4-1)=2147483648 from rfl,show(2:Int)^64=18446744073709551616 from rfl]
   split<;>split<;>omega
def v7 (M B:Nat):Bool:=decide (B*18446744073709551616<=M)
def v8 (t:Bool)(n q:Nat):Bool:=if t=true then decide (2^(8*n-1)<q)else decide (2^(8*n-1)<=q)
def Cf (X D:Int):Bool:=decide (X<0) != decide (D<0)
def negI (t:Bool)(q:Nat):Int:=if t=true then -(q:Int)else(q:Int)
def HN (sg:Bool)(n:Nat)(X D:Int)(q r:Nat):Int×Int×Bool:=
 if v7 X.natAbs D.natAbs=true then(0,0,false)
 else if sg=false then(lG n (q:Int),lG n (r:Int),decide (q<2^(8*n)))
 else if v8 (Cf X D) n q=true then(0,0,false)
 else(lG n (negI (Cf X D) q),lG n (negI (decide (X<0)) r),true)
def uk (op:Int)(n:Nat)(hi lo d:Int):Int×Int×Bool:=
 HN (decide (op=16)) n (oD (decide (op=16)) n hi lo) (nE (decide (op=16)) n d) ((oD (decide (op=16)) n hi lo).natAbs/(nE (decide (op=16)) n d).natAbs) ((oD (decide (op=16)) n hi lo).natAbs%(nE (decide (op=16)) n d).natAbs)
theorem qC {n:Nat}(hn:cl (n:Int)=true)(z:Int):bV (IntKind.wrap .i64 z) n=lG n z:=by
 refine pB hn (au _) ?_
 rw[b8,bt,Int.emod_emod_of_dvd z (by have:=CS (dL hn).2;exact this)]
theorem lY {a b:Int}(h:a%18446744073709551616=b%18446744073709551616):IntKind.wrap .i64 a=IntKind.wrap .i64 b:=by
 simp only[IntKind.wrap,IntKind.bits,show(2:Int)^64=18446744073709551616 from rfl,h]
theorem mZ (x:Int):IntKind.wrap .i64 x%18446744073709551616=x%18446744073709551616:=by
 have:=b8 x
 have h1:=bt (IntKind.wrap .i64 x)
 have h2:=bt x
 rw[this]at h1
 rw[show(2:Int)^64=18446744073709551616 from rfl]at h1 h2
 omega
theorem Af (z:Int):aT .i64 0 (IntKind.wrap .i64 z)=IntKind.wrap .i64 (-z):=by
 unfold aT
 refine lY ?_
 have:=mZ z
 omega
theorem CL {sg:Bool}{n:Nat}(hn:cl (n:Int)=true)(hi lo:Int): -170141183460469231731687303715884105728<=oD sg n hi lo/\oD sg n hi lo<340282366920938463463374607431768211456/\(sg=false->0<=oD sg n hi lo):=by
 have hlt:=lC n hi lo
 unfold oD
 generalize nX n hi lo=N at*
 rcases xN hn with rfl|rfl|rfl|rfl
 ·rw[show(2:Nat)^(16*1)=65536 from rfl]at hlt
  rw[show(2:Nat)^(16*1-1)=32768 from rfl,show(2:Int)^(16*1)=65536 from rfl]
  split
  ·rename_i h;exact⟨by omega,by omega,fun g=>by rw[g]at h;cases h.1⟩
  ·omega
 ·rw[show(2:Nat)^(16*2)=4294967296 from rfl]at hlt
  rw[show(2:Nat)^(16*2-1)=2147483648 from rfl,show(2:Int)^(16*2)=4294967296 from rfl]
  split
  ·rename_i h;exact⟨by omega,by omega,fun g=>by rw[g]at h;cases h.1⟩
  ·omega
 ·rw[show(2:Nat)^(16*4)=18446744073709551616 from rfl]at hlt
  rw[show(2:Nat)^(16*4-1)=9223372036854775808 from rfl,show(2:Int)^(16*4)=18446744073709551616 from rfl]
  split
  ·rename_i h;exact⟨by omega,by omega,fun g=>by rw[g]at h;cases h.1⟩
  ·omega
 ·rw[show(2:Nat)^(16*8)=340282366920938463463374607431768211456 from rfl]at hlt
  rw[show(2:Nat)^(16*8-1)=170141183460469231731687303715884105728 from rfl,show(2:Int)^(16*8)=340282366920938463463374607431768211456 from rfl]
  split
  ·rename_i h;exact⟨by omega,by omega,fun g=>by rw[g]at h;cases h.1⟩
  ·omega
theorem DF {n:Nat}(hn:cl (n:Int)=true):uns (dD .i64 1 (8*(n:Int)-1))=2^(8*n-1):=by
 rcases xN hn with rfl|rfl|rfl|rfl<;>decide +kernel
theorem vK (a b:Int):dE ((a,b,()),())=some (decide (uns a<uns b),()):=by
 unfold dE
 dsimp only
 rw[eI,eI]
 unfold ltI
 simp only[Int.ofNat_lt]
theorem F0 {n:Nat}(hn:cl (n:Int)=true){q:Nat}(hq:q<18446744073709551616):eqI (lG n (q:Int)) (IntKind.wrap .i64 (q:Int))=decide (q<2^(8*n)):=by
 unfold eqI
 have h1:=xD n (dL hn).2 (q:Int)
 have h2:uns (IntKind.wrap .i64 (q:Int))=q:=by rw[b8,fg hq]
 have h3:((q:Int)%2^(8*n)).toNat=q%2^(8*n):=by
  rw[<-kY,<-Int.natCast_emod,Int.toNat_natCast]
 rw[h3]at h1
 by_cases h:q<2^(8*n)
 ·rw[decide_eq_true h]
  refine decide_eq_true (j6 (jT ..) (au _) ?_)
  rw[h1,h2,Nat.mod_eq_of_lt h]
 ·rw[decide_eq_false h]
  refine decide_eq_false (fun he=>?_)
  rw[he,h2]at h1
  have:=Nat.mod_lt q (Nat.two_pow_pos (8*n))
  omega
theorem CM {op hi lo d:Int}{n:Nat}(hn:cl (n:Int)=true)(hh:I64 hi)(hl:I64 lo)(hd:I64 d):
  gE ((op,(n:Int),hi,lo,d,()),())=some (((uk op n hi lo d).1,(uk op n hi lo d).2.1,(uk op n hi lo d).2.2,()),()):=by
 obtain⟨h1,h8⟩:=dL hn
 unfold gE
 dsimp only
 obtain⟨sg,hsg⟩:∃sg:Bool,sg=decide (op=16):=⟨_,rfl⟩
 have heq:eqI op 16=sg:=by rw[hsg];rfl
 rw[heq]
 obtain⟨h,l,e1,hI,lI,hX,hlt⟩:=Dj hn hh hl sg
 rw[e1,aa,bQ _ n hn,aa]
 dsimp only
 have hxb:=CL (sg:=sg) hn hi lo
 unfold uk
 rw[<-hsg]
 obtain⟨X,hXe⟩:∃X,X=oD sg n hi lo:=⟨_,rfl⟩
 obtain⟨D,hDe⟩:∃D,D=nE sg n d:=⟨_,rfl⟩
 have hDb:=HQ sg hn d
 rw[<-hXe]at hX hlt hxb
 rw[<-hDe]at hDb
 rw[<-hXe,<-hDe]
 obtain⟨q,hq⟩:∃q,q=X.natAbs/D.natAbs:=⟨_,rfl⟩
 obtain⟨r,hr⟩:∃r,r=X.natAbs%D.natAbs:=⟨_,rfl⟩
 rw[<-hq,<-hr]
 obtain⟨D1,hD1⟩:∃D1,D1=if sg=true then D else bV d n:=⟨_,rfl⟩
 refine(Ret.bnd (Q:=fun y=>y=Sum.inl (((n:Int),h,l,D1,sg,()),())) ?_ ?_).eq
 ·cases sg with
  |true=>
   rw[aE,kW _ _ (by omega) (by omega),aa,show(8*(n:Int)-1).toNat=8*n-1 by omega,ET hn,hD1,if_pos rfl,hDe]
   exact Ret.some rfl
  |false=>
   rw[ak,hD1,iD]
   exact Ret.some rfl
 rintro _ rfl
 rw[ah]
 dsimp only
 have hbel:br sg (some (ltI h 0)) (some false)=some (decide (X<0)):=by
  cases sg with
  |true=>rw[aE];unfold ltI;simp only[hlt rfl]
  |false=>rw[ak,decide_eq_false (show ¬X<0 by have:=hxb.2.2 rfl;omega)]
 rw[hbel,aa]
 refine Ret.bnd (Q:=fun y=>∃h' l',I64 h'/\I64 l'/\uns h'*18446744073709551616+uns l'=X.natAbs/\y=Sum.inl (((n:Int),h',l',D1,sg,decide (X<0),false,()),())) ?_ ?_
 ·by_cases hx:X<0
  ·rw[decide_eq_true hx,aE]
   obtain⟨h',l',e2,hI',lI',hO⟩:=yZ (h:=h) (l:=l)
   rw[e2,aa]
   refine Ret.some ⟨h',l',hI',lI',?_,rfl⟩
   rw[hX,if_pos hx]at hO
   omega
  ·rw[decide_eq_false hx,ak]
   refine Ret.some ⟨h,l,hI,lI,?_,rfl⟩
   rw[if_neg hx]at hX
   omega
 rintro _ ⟨h',l',hI',lI',hM,rfl⟩
 rw[ah]
 dsimp only
 have htur:br sg (some (ltI D1 0)) (some false)=some (decide (D<0)):=by
  cases sg with
  |true=>rw[aE,hD1,if_pos rfl];rfl
  |false=>rw[ak,decide_eq_false (show ¬D<0 by have:=hDb.2.2.2 rfl;omega)]
 rw[htur,aa]
 refine Ret.bnd (Q:=fun y=>∃d',uns d'=D.natAbs/\y=Sum.inl (((n:Int),h',l',d',sg,decide (X<0),decide (D<0),()),())) ?_ ?_
 ·have hb63:sg=true-> -9223372036854775808<=D/\D<9223372036854775808:=fun g=>by
   have h5:(2:Nat)^(8*n-1)<=2^63:=Nat.pow_le_pow_right (by decide) (by omega)
   have h6:(2:Int)^(8*n-1)<=9223372036854775808:=by
    have:=kY (8*n-1)
    rw[<-this];exact Int.ofNat_le.2 h5
   have:=hDb.1
   have:=hDb.2.2.1 g
   omega
  by_cases hx:D<0
  ·have hs:sg=true:=by
    cases sg with
    |true=>rfl
    |false=>have:=hDb.2.2.2 rfl;omega
   subst hs
   rw[decide_eq_true hx,aE,hD1,if_pos rfl]
   refine Ret.some ⟨aT .i64 0 D,?_,rfl⟩
   have hb:=hb63 rfl
   unfold aT
   rw[b8,show 0-D=((D.natAbs:Nat):Int)by omega,fg (by omega)]
  ·rw[decide_eq_false hx,ak]
   refine Ret.some ⟨D1,?_,rfl⟩
   cases sg with
   |true=>
    rw[hD1,if_pos rfl]
    have hb:=hb63 rfl
    obtain⟨k,hk⟩:∃k:Nat,D=k:=⟨D.natAbs,by omega⟩
    rw[hk,fg (by omega),Int.natAbs_natCast]
   |false=>
    rw[hD1,iD,cB hd hn,hDe]
    unfold nE
    rw[iD,Int.natAbs_natCast]
 rintro _ ⟨d',hd',rfl⟩
 rw[ah]
 dsimp only[p5,p6]
 rw[t5,aa,hM,hd']
 have hl64:=eJ l'
 by_cases hov:D.natAbs<=uns h'
 ·have hb:v7 X.natAbs D.natAbs=true:=dT
  unfold HN
  rw[if_pos hov,if_pos hb]
  exact Ret.some rfl
 have hb:¬v7 X.natAbs D.natAbs=true:=fun g=>by
  have:=of_decide_eq_true g
  omega
 rw[if_neg hov]
 dsimp only
 have hq64:q<18446744073709551616:=by rw[hq];exact Nat.div_lt_of_lt_mul (by omega)
 rw[<-hq,<-hr,show aQ (eqI 0 0)=false from rfl,ak]
 clear hov hXe hDe hq hr hM hd' hxb hDb hbel htur hD1
 cases sg with
 |false=>
  rw[show aQ false=true from rfl,aE,bQ _ n hn,bQ _ n hn,aa,aa,aa]
  dsimp only
  rw[qC hn,qC hn,F0 hn hq64]
  unfold HN
  rw[if_neg hb,if_pos rfl]
  exact Ret.some rfl
 |true=>
  rw[show aQ true=false from rfl,ak]
  rw[cX (a:=8),bn,ae (fu),vK,vK,aa,aa,DF hn,b8,fg hq64]
  have hnB:∀a b:Bool,aQ (eqB a b)=(a != b):=fun a b=>by cases a<;>cases b<;>rfl
  rw[hnB,show(decide (X<0) != decide (D<0))=Cf X D from rfl]
  dsimp only
  unfold HN
  rw[if_neg hb,if_neg (show ¬true=false by decide)]
  obtain⟨t,ht⟩:∃t:Bool,t=Cf X D:=⟨_,rfl⟩
  rw[<-ht]
  by_cases hf:v8 t n q=true
  ·rw[if_pos hf]
   refine Ret.bnd (Q:=fun y=>y=Sum.inr ((0,0,false,()),())) ?_ ?_
   ·cases t with
    |true=>
     have hf':2^(8*n-1)<q:=of_decide_eq_true hf
     rw[aE,decide_eq_true hf',aE]
     exact Ret.some rfl
    |false=>
     have hf':2^(8*n-1)<=q:=of_decide_eq_true hf
     rw[ak,dF,show aQ false=true from rfl,aE]
     exact Ret.some rfl
   ·rintro _ rfl
    rw[qg]
    exact Ret.some rfl
  ·rw[if_neg hf]
   refine Ret.bnd (Q:=fun y=>y=Sum.inl (((n:Int),decide (X<0),IntKind.wrap .i64 (negI t q),IntKind.wrap .i64 (r:Int),()),())) ?_ ?_
   ·cases t with
    |true=>
     have hf':¬2^(8*n-1)<q:=fun g=>hf (decide_eq_true g)
     rw[aE,decide_eq_false hf',ak,Af]
     exact Ret.some rfl
    |false=>
     have hf':¬2^(8*n-1)<=q:=fun g=>hf (decide_eq_true g)
     rw[ak,dT,show aQ true=false from rfl,ak]
     exact Ret.some rfl
   rintro _ rfl
   rw[ah]
   dsimp only
   refine Ret.bnd (Q:=fun y=>y=Sum.inl (((n:Int),IntKind.wrap .i64 (negI t q),IntKind.wrap .i64 (negI (decide (X<0)) r),()),())) ?_ ?_
   ·cases decide (X<0)with
    |true=>
     rw[aE,Af]
     exact Ret.some rfl
    |false=>
     rw[ak]
     exact Ret.some rfl
   rintro _ rfl
   rw[ah]
   dsimp only
   rw[bQ _ n hn,bQ _ n hn,aa,aa]
   dsimp only
   rw[qC hn,qC hn]
   exact Ret.some rfl
theorem zK {op hi lo d:Int}{n:Nat}:I64 (uk op n hi lo d).1/\I64 (uk op n hi lo d).2.1:=by
 have z:I64 0:=by unfold I64;omega
 unfold uk HN
 split
 ·exact⟨z,z⟩
 split
 ·exact⟨jT ..,jT ..⟩
 split
 ·exact⟨z,z⟩
 ·exact⟨jT ..,jT ..⟩
end Go.Den.G
