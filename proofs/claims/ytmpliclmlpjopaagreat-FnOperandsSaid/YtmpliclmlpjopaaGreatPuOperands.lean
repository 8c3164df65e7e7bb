/- Theory for the proofs of this claim: see its last text. -/
import Derived.Test.YtmpliclmlpjopaaGreatFnOperands
import Derived.Test.YtmpliclmlpjopaaGreatDenF
import Derived.KernelRfl
import Derived.Laws.MathBits
import Derived.Test.YtmpliclmlpjopaaGreatPaOperands
namespace Go.Den.G
open Go.Den
set_option maxRecDepth 100000
theorem opB_z {k r b i s d m z z':Int}(h:k≠1):opB k r b i s d m z↔opB k r b i s d m z':=by
 unfold opB
 constructor<;>(rintro(g|g);exact absurd g.1 h;exact .inr g)
theorem zv {k r b i s d m z:Int}(h:opB k r b i s d m z):0≤k∧k≤3:=by
 unfold opB kF at h
 rcases h with h|h|h|h<;>omega
theorem opB_imm {k r b i s d m z:Int}(h:opB k r b i s d m z)(hk:k≠3):m=0:=by
 unfold opB kF at h
 rcases h with h|h|h|h<;>omega
theorem wd (z:Int):qt 0 z=true:=by unfold qt fitsB sx;simp[eqI]
theorem re:∀n:Nat,n<45→(!((szL (szK n)).any fun z=>decide (z=0))||decide (n=0)||decide (prK n=[[48,105]])||decide (prK n=[[48,48]]))=true:=by decide +kernel
theorem sH (n:Nat)(h:n<45)(h1:1≤n)(hz:(0:Int)∈szL (szK n)):prK n=[[48,105]]∨prK n=[[48,48]]:=by
 have:=re n h
 have e:((szL (szK n)).any fun z=>decide (z=0))=true:=List.any_eq_true.2 ⟨0,hz,rfl⟩
 rw[e]at this
 simp only[Bool.not_true,Bool.false_or,Bool.or_eq_true,decide_eq_true_eq]at this
 rcases this with (h|h)|h
 ·omega
 ·exact .inl h
 ·exact .inr h
theorem su {k:Int}(h:ko k 48):k=0:=by
 unfold ko at h
 rcases h with h|h|h|h
 ·exact absurd h.2 (by decide)
 ·exact absurd h.2 (by decide)
 ·exact absurd h.2 (by decide)
 ·exact h.1
theorem y4 {k:Int}(h:ko k 105):k=3:=by
 unfold ko at h
 rcases h with h|h|h|h
 ·exact absurd h.2 (by decide)
 ·exact absurd h.2 (by decide)
 ·exact h.1
 ·exact absurd h.2 (by decide)
theorem pe {n:Nat}(h2:n<45)(h1:1≤n){k l:Int}(hs:(0:Int)∈szL (szK n))(ha:(prK n).any (fW k l)=true):k=0∧(l=0∨l=3):=by
 rcases sH n h2 h1 hs with e|e<;>rw[e]at ha<;>simp only[List.any_cons,List.any_nil,Bool.or_false,fW,Bool.and_eq_true,decide_eq_true_eq]at ha
 ·exact⟨su ha.1,.inr (y4 ha.2)⟩
 ·exact⟨su ha.1,.inl (su ha.2)⟩
theorem rF:∀n:Nat,n<45→((szL (szK n)).all fun z=>decide (1≤n→(n≤10→z≠0)∧(20≤n∧n≤24→z≠0)∧((n=33∨n=34∨n=37∨n=38∨n=43∨n=44)→z=0)∧(n=26∨n=27→z≠0)∧(29≤n∧n≤32→z=8)))=true:=by decide +kernel
theorem kC (n:Nat)(h:n<45)(h1:1≤n)(z:Int)(hz:z∈szL (szK n)):(n≤10→z≠0)∧(20≤n∧n≤24→z≠0)∧((n=33∨n=34∨n=37∨n=38∨n=43∨n=44)→z=0)∧(n=26∨n=27→z≠0)∧(29≤n∧n≤32→z=8):=
 of_decide_eq_true (List.all_eq_true.1 (rF n h) z hz) h1
theorem no_imm0:∀n:Nat,n<45→(decide (n≤10)||decide (20≤n∧n≤24)||decide (n=29∨n=31∨n=32∨n=33∨n=44)||(prK n).all fun q=> !decide (q.getD 1 0=105))=true:=by decide +kernel
theorem no_imm {n:Nat}(h:n<45)(hn:¬(n≤10∨(20≤n∧n≤24)∨n=29∨n=31∨n=32∨n=33∨n=44)){k l:Int}(ha:(prK n).any (fW k l)=true):l≠3:=by
 have h0:=no_imm0 n h
 simp only[Bool.or_eq_true,decide_eq_true_eq]at h0
 have h1:((prK n).all fun q=> !decide (q.getD 1 0=105))=true:=by
  rcases h0 with ((h|h)|h)|h
  ·exact absurd (.inl h) hn
  ·exact absurd (.inr (.inl h)) hn
  ·exact absurd (.inr (.inr h)) hn
  ·exact h
 obtain⟨q,hq,hp⟩:=List.any_eq_true.1 ha
 have h2:=List.all_eq_true.1 h1 q hq
 obtain⟨a,_,b,_,rfl⟩:=An n h q hq
 simp only[fW,Bool.and_eq_true,decide_eq_true_eq]at hp
 have hb:b≠105:=by simpa using h2
 have:=hp.2
 unfold ko at this
 rcases this with g|g|g|g
 ·omega
 ·omega
 ·exact absurd g.2 hb
 ·omega
structure Com (x:Ins)(n:Nat):Prop where
 sz:x.size∈szL (szK n)
 any:(prK n).any (fW x.dst.kind x.src.kind)=true
 frm:ly x n
variable {x:Ins}{n:Nat}
theorem Com.dst (h:Com x n)(h1:1≤n)(h2:n<45):(jz (wt 1 x.size)∧j9 x.dst (wt 1 x.size))↔j9 x.dst x.size:=by
 have hs:=xI h.sz
 by_cases h0:x.size=0
 ·have hk:=pe h2 h1 (h0▸h.sz) h.any
  have e:wt 1 x.size=1:=by rw[h0];rfl
  rw[e]
  have:j9 x.dst 1↔j9 x.dst x.size:=opB_z (by omega)
  rw[this]
  exact⟨fun g=>g.2,fun g=>⟨.inl rfl,g⟩⟩
 ·have e:wt 1 x.size=x.size:=imax_r (by omega)
  rw[e]
  exact⟨fun g=>g.2,fun g=>⟨by unfold jz;omega,g⟩⟩
theorem Com.sizes (h:Com x n)(h1:1≤n)(h2:n<45):(iSz x n=sSz x n∧jz (iSz x n))∨(x.size=0∧x.src.kind≠1∧x.src.kind≠2∧jz (iSz x n)):=by
 have hs:=xI h.sz
 obtain⟨_,c2,_,c4,_⟩:=kC n h2 h1 x.size h.sz
 have hf:=h.frm
 unfold ly at hf
 unfold iSz sSz jz
 by_cases hn:20≤n∧n≤24
 ·rw[if_neg (by omega),if_neg (by omega)]at hf
  left
  rw[if_neg (by omega),if_pos (.inl hn),if_pos hn]
  omega
 ·by_cases hm:n=26∨n=27
  ·have hfr:x.frm=1∨x.frm=2∨x.frm=4:=by
    rcases hm with hm|hm
    ·rw[if_pos hm]at hf;omega
    ·rw[if_neg (by omega),if_pos hm]at hf;omega
   left
   rw[if_pos (by omega),if_neg hn,if_pos (by omega)]
   omega
  ·rw[if_neg (by omega),if_neg (by omega)]at hf
   by_cases h0:x.size=0
   ·right
    have hk:=pe h2 h1 (h0▸h.sz) h.any
    rw[if_neg (by omega),if_pos (.inr h0)]
    omega
   ·left
    rw[if_neg (by omega),if_neg (by omega),if_neg hn,if_neg (by omega)]
    omega
theorem Com.src (h:Com x n)(h1:1≤n)(h2:n<45):(jz (iSz x n)∧j9 x.src (iSz x n))↔j9 x.src (sSz x n):=by
 rcases h.sizes h1 h2 with ⟨e,hz⟩|⟨h0,hk,_,hz⟩
 ·rw[e]at hz⊢
  exact⟨fun g=>g.2,fun g=>⟨hz,g⟩⟩
 ·have:j9 x.src (iSz x n)↔j9 x.src (sSz x n):=opB_z hk
  rw[this]
  exact⟨fun g=>g.2,fun g=>⟨hz,g⟩⟩
theorem hi_no {o:Opd}{z:Int}(h:j9 o z):hiP o↔Ae o:=by
 unfold j9 opB qu at h
 unfold hiP Ae noP
 constructor
 ·intro g;exact⟨g.1,g.2.1⟩
 ·intro g
  rcases h with h|h|h|h
  ·exact⟨g.1,g.2,by omega⟩
  ·unfold kF at h;omega
  ·omega
  ·omega
theorem vR {o:Opd}{z y:Int}(h:j9 o z)(hy:y=z∨o.kind≠1):rU o y↔ol o z:=by
 unfold j9 opB qu kF at h
 unfold rU ol ry
 rcases h with h|h|h|h<;>omega
theorem Com.rex (h:Com x n)(h1:1≤n)(h2:n<45)(hd:j9 x.dst x.size)(hs:j9 x.src (sSz x n)):
  (¬(hiP x.dst∨hiP x.src)∨¬((x.size=8∧¬yI n)∨rU x.dst x.size∨rU x.src (iSz x n)))↔
  (¬(Ae x.dst∨Ae x.src)∨¬ol x.dst x.size∧¬ol x.src (sSz x n)∧(x.size≠8∨29≤n∧n≤32)):=by
 obtain⟨_,_,c3,_,_⟩:=kC n h2 h1 x.size h.sz
 have e:iSz x n=sSz x n∨x.src.kind≠1:=(h.sizes h1 h2).imp (·.1) (·.2.1)
 rw[hi_no hd,hi_no hs,vR hd (.inl rfl),vR hs e]
 have w:(x.size=8∧¬yI n)↔¬(x.size≠8∨29≤n∧n≤32):=by unfold yI;omega
 rw[w]
 refine or_congr Iff.rfl ?_
 constructor
 ·intro g
  exact⟨fun a=>g (.inr (.inl a)),fun a=>g (.inr (.inr a)),Classical.byContradiction fun a=>g (.inl a)⟩
 ·rintro⟨g1,g2,g3⟩ (a|a|a)
  ·exact a g3
  ·exact g1 a
  ·exact g2 a
theorem Com.num (h:Com x n)(h1:1≤n)(h2:n<45)(hs:j9 x.src (sSz x n)):Ag x n=true↔(x.src.kind=3→numI x n=true)∧(20≤n∧n≤24→x.src.kind=1→x.src.reg=1):=by
 obtain⟨c1,c2,c3,c4,c5⟩:=kC n h2 h1 x.size h.sz
 have hi:x.src.kind≠3→x.src.imm=0:=opB_imm hs
 have hf:=h.frm
 unfold ly at hf
 have f8:qt x.src.imm 8=qt x.src.imm 4:=rfl
 have f0:x.src.kind≠3→∀z,qt x.src.imm z=true:=fun hk z=>by rw[hi hk];exact wd z
 unfold Ag numI
 by_cases n1:n≤8∨n=10
 ·rw[if_pos n1,if_neg (by omega),if_neg (by omega),if_neg (c1 (by omega))]
  constructor
  ·intro g;exact⟨fun _=>g,fun a=>by omega⟩
  ·intro g
   by_cases hk:x.src.kind=3
   ·exact g.1 hk
   ·exact f0 hk _
 ·rw[if_neg n1]
  by_cases n2:n=9
  ·rw[if_pos n2,if_neg (by omega),if_neg (c1 (by omega)),Bool.or_eq_true,decide_eq_true_eq]
   constructor
   ·intro g
    refine⟨fun _=>?_,fun a=>by omega⟩
    split
    ·rfl
    ·rename_i hn
     exact g.resolve_left fun a=>hn ⟨n2,a⟩
   ·intro g
    by_cases hk:x.src.kind=3
    ·have:=g.1 hk
     split at this
     ·rename_i hn;exact .inl hn.2
     ·exact .inr this
    ·exact .inr (f0 hk _)
  ·rw[if_neg n2]
   by_cases n3:20≤n∧n≤24
   ·rw[if_pos n3,if_pos (.inl n3),decide_eq_true_eq,decide_eq_true_eq]
    constructor
    ·intro g;exact⟨fun _=>g.2,fun _ a=>Classical.byContradiction fun b=>g.1 ⟨a,b⟩⟩
    ·intro g
     refine⟨fun a=>a.2 (g.2 n3 a.1),?_⟩
     by_cases hk:x.src.kind=3
     ·exact g.1 hk
     ·rw[hi hk];decide
   ·rw[if_neg n3]
    have none:(¬(n=29∨n=31∨n=32∨n=33∨n=44))→x.src.kind≠3:=fun hn=>no_imm h2 (by omega) h.any
    by_cases n4:n=26
    ·rw[if_pos n4]at hf
     rw[if_pos n4,decide_eq_true_eq]
     exact⟨fun _=>⟨fun a=>absurd a (none (by omega)),fun a=>absurd a n3⟩,fun _=>hf⟩
    ·rw[if_neg n4]at hf⊢
     by_cases n5:n=27
     ·rw[if_pos n5]at hf
      rw[if_pos n5,decide_eq_true_eq]
      exact⟨fun _=>⟨fun a=>absurd a (none (by omega)),fun a=>absurd a n3⟩,fun _=>hf⟩
     ·rw[if_neg n5]
      by_cases n6:n=29∨n=31∨n=32∨n=33
      ·have e:(if(20≤n∧n≤24)∨n=44 then decide (0≤x.src.imm∧x.src.imm≤255)else if n=9∧x.size=8∧x.dst.kind=1 then true else if x.size=0 then qt x.src.imm 4 else qt x.src.imm x.size)=qt x.src.imm 4:=by
        rw[if_neg (by omega),if_neg (by omega)]
        by_cases h0:x.size=0
        ·rw[if_pos h0]
        ·rw[if_neg h0]
         have:x.size=8:=by
          rcases n6 with m|m|m|m
          ·exact c5 (by omega)
          ·exact c5 (by omega)
          ·exact c5 (by omega)
          ·exact absurd (c3 (.inl m)) h0
         rw[this,f8]
       rw[if_pos n6,e]
       constructor
       ·intro g;exact⟨fun _=>g,fun a=>absurd a n3⟩
       ·intro g
        by_cases hk:x.src.kind=3
        ·exact g.1 hk
        ·exact f0 hk _
      ·rw[if_neg n6]
       by_cases n7:n=44
       ·rw[if_pos n7,if_pos (.inr n7)]
        constructor
        ·intro g;exact⟨fun _=>g,fun a=>absurd a n3⟩
        ·intro g
         by_cases hk:x.src.kind=3
         ·exact g.1 hk
         ·rw[hi hk];decide
       ·rw[if_neg n7]
        exact⟨fun _=>⟨fun a=>absurd a (none (by omega)),fun a=>absurd a n3⟩,fun _=>rfl⟩
theorem ins_iff (h1:1≤n)(h2:n<45):ww x n↔oJ x n:=by
 have hkc:∀ {o:Opd} {z:Int},j9 o z→(kc o.kind:Int)=o.kind:=fun g=>kc_eq (zv g)
 constructor
 ·rintro⟨⟨a1,a2⟩,⟨a3,a4⟩,a5,a6,a7,a8,a9,a10,a11,a12,a13⟩
  rw[hkc a9.2,hkc a10.2]at a8
  have C:Com x n:=⟨a6,a8,a7⟩
  have d:=(C.dst h1 h2).1 a9
  have e:=(C.src h1 h2).1 a10
  have hn:=(C.num h1 h2 e).2 ⟨a11,a12⟩
  refine⟨a1,a2,by unfold shB;rw[decide_eq_true a6,a8,hn];rfl,?_,by omega,a3,a4,d,e,(C.rex h1 h2 d e).1 a13⟩
  unfold ly at a7
  by_cases m:n=26∨n=27
  ·exact .inl m
  ·rw[if_neg (by omega),if_neg (by omega)]at a7;exact .inr a7
 ·rintro⟨a1,a2,a3,a4,a5,a6,a7,a8,a9,a10⟩
  unfold shB at a3
  simp only[Bool.and_eq_true,decide_eq_true_eq]at a3
  obtain⟨b1,b2,b3⟩:=a3
  have fr:ly x n:=by
   unfold ly
   unfold Ag at b3
   by_cases m:n=26
   ·rw[if_neg (by omega),if_neg (by omega),if_neg (by omega),if_pos m,decide_eq_true_eq]at b3
    rw[if_pos m];exact b3
   ·by_cases m2:n=27
    ·rw[if_neg (by omega),if_neg (by omega),if_neg (by omega),if_neg m,if_pos m2,decide_eq_true_eq]at b3
     rw[if_neg m,if_pos m2];exact b3
    ·rw[if_neg m,if_neg m2]
     exact a4.resolve_left (by omega)
  have C:Com x n:=⟨b1,b2,fr⟩
  have q:=(C.num h1 h2 a9).1 b3
  exact⟨⟨a1,a2⟩,⟨a6,a7⟩,by omega,b1,fr,by rw[hkc a8,hkc a9];exact b2,(C.dst h1 h2).2 a8,(C.src h1 h2).2 a9,q.1,q.2,(C.rex h1 h2 a8 a9).2 a10⟩
theorem ut (x:Ins){n:Nat}(h1:1≤n)(h2:n<45)(h:x.op=n)(hd:I64 x.dst.disp)(hs:I64 x.src.disp):aV ((x,()),())=some (decide (oJ x n),()):=by
 rw[(vK x h1 h2 h hd hs).eq]
 congr 2
 rw[Bool.eq_iff_iff,decide_eq_true_eq,decide_eq_true_eq]
 exact ins_iff h1 h2
theorem uu (x:Ins)(h:¬(1≤x.op∧x.op≤44)):aV ((x,()),())=some (false,())∧bt ((x,()),())=some (false,()):=by
 constructor
 ·unfold aV eF
  dsimp only
  rw[aR,af,af]
  dsimp only
  rw[decide_eq_false h,dO]
  rfl
 ·unfold bt fN
  dsimp only
  rw[cg,aR,af,af]
  dsimp only
  rw[decide_eq_false h,dO]
  rfl
set_option maxRecDepth 100000
variable {x:Ins}{n:Nat}
def lw (t:List UInt8)(a n:Int):Int:=IntKind.wrap .i64 (leN ((t.drop a.toNat).take n.toNat))
abbrev Pos:=Except Int Int
def rdU (t:List UInt8)(n:Int)(p:Pos):Int:=match p with
 | .ok a=>if a+n≤t.length then lw t a n else 0
 | .error _=>0
def rdS (t:List UInt8)(n:Int)(p:Pos):Int:=sx (8*n-1).toNat (rdU t n p)
section
variable {t:List UInt8}{a c:Int}
end
section
variable {t:List UInt8}{a c:Int}
end
section
variable {t:List UInt8}{a c x:Int}{w:Bool}
theorem le (m:Nat)(hm:m≤63)(v:Int):I64 (sx m v):=by
 unfold sx
 have hp:(0:Int)<2^(m+1):=Int.pow_pos (by decide)
 have h1:=Int.emod_nonneg v (Int.ne_of_gt hp)
 have h2:=Int.emod_lt_of_pos v hp
 have hd:(2:Int)^(m+1)=2^m*2:=Int.pow_succ 2 m
 have hm3:(2:Int)^m≤2^63:=by
  have h:=Nat.pow_le_pow_right (show 0<2 by decide) hm
  have e1:((2^m:Nat):Int)=(2:Int)^m:=by simp
  have e2:((2^63:Nat):Int)=(2:Int)^63:=by simp
  rw[←e1,←e2];exact Int.ofNat_le.2 h
 have hb:v%2^64/2^m%2=v%2^(m+1)/2^m:=by
  have h64:(2:Int)^(m+1)*2^(63-m)=2^64:=by rw[←Int.pow_add];congr 1;omega
  have h1:v%2^(m+1)=v%2^64%2^(m+1):=by
   rw[Int.emod_emod_of_dvd]
   exact⟨2^(63-m),h64.symm⟩
  rw[h1,Int.pow_succ 2 m]
  have hu:=bf v
  rw[←hu]
  have:((2:Int)^m)=((2^m:Nat):Int):=by simp
  rw[this]
  have h2:((2^m:Nat):Int)*2=((2^m*2:Nat):Int):=by simp
  rw[h2]
  rw[←Int.natCast_ediv,←Int.natCast_emod,←Int.natCast_ediv,Nat.mod_mul_right_div_self]
  simp
 rw[hb]
 have hpm:(0:Int)<2^m:=Int.pow_pos (by decide)
 generalize v%2^(m+1)=r at*
 unfold I64
 by_cases hs:(2:Int)^m≤r
 ·have hq:r/2^m=1:=by
   rw[Int.ediv_eq_iff_of_pos hpm];omega
  rw[hq,if_pos rfl];omega
 ·have hq:r/2^m=0:=Int.ediv_eq_zero_of_lt h1 (by omega)
  rw[hq,if_neg (by decide)];omega
end
def qr (n:Nat)(hi lo:Int):Nat:=cw hi n*2^(8*n)+cw lo n
def oE (sg:Bool)(n:Nat)(hi lo:Int):Int:=if sg=true∧2^(16*n-1)≤qr n hi lo then(qr n hi lo:Int)-2^(16*n)else(qr n hi lo:Int)
theorem lx (n:Nat)(hi lo:Int):qr n hi lo<2^(16*n):=by
 have h1:=gJ hi n
 have h2:=gJ lo n
 unfold qr
 rw[show 16*n=8*n+8*n by omega,Nat.pow_add]
 generalize 2^(8*n)=P at*
 have:(cw hi n+1)*P≤P*P:=Nat.mul_le_mul_right _ h1
 rw[Nat.add_mul]at this
 omega
theorem zX (hi lo:Int):qr 8 hi lo=uns hi*18446744073709551616+uns lo:=by
 unfold qr cw
 rw[show(2:Nat)^(8*8)=18446744073709551616 from rfl,Nat.mod_eq_of_lt (fj hi),Nat.mod_eq_of_lt (fj lo)]
theorem join_n {n:Nat}(hn:n=1∨n=2∨n=4){hi lo:Int}(hh:I64 hi)(hl:I64 lo):ior .i64 (gP .i64 (dc hi n) (8*(n:Int))) (dc lo n)=IntKind.wrap .i64 (qr n hi lo):=by
 have hs:cM (n:Int)=true:=by rcases hn with rfl|rfl|rfl<;>rfl
 refine iV (jb ..) (ax _) ?_
 have e8:8*(n:Int)=((8*n:Nat):Int):=by omega
 have hlt:=lx n hi lo
 have h32:2^(16*n)≤2^64:=Nat.pow_le_pow_right (by decide) (by omega)
 have hu:uns (gP .i64 (dc hi n) ((8*n:Nat):Int))=cw hi n*2^(8*n):=by
  unfold gP
  rw[bV,Int.toNat_natCast,show min (8*n) IntKind.i64.bits=8*n by simp[IntKind.bits];omega]
  have:0≤dc hi n:=by
   unfold dc
   rw[if_neg (by omega)]
   exact Int.emod_nonneg _ (Int.ne_of_gt (Int.pow_pos (by decide)))
  have h3:=bf (dc hi n)
  rw[iW hh hs]at h3
  have hI:=fd hh hs
  unfold I64 at hI
  have h4:dc hi n=(cw hi n:Int):=by omega
  rw[h4,←i9,←Int.natCast_mul,eJ]
  refine Nat.lt_of_le_of_lt ?_ (Nat.lt_of_lt_of_le hlt h32)
  exact Nat.le_add_right _ _
 rw[qn,e8,hu,iW hl hs,bV,eJ (Nat.lt_of_lt_of_le hlt h32)]
 unfold qr
 rw[Nat.mul_comm,Nat.two_pow_add_eq_or_of_lt (gJ lo n)]
theorem bit_top {N m:Nat}(h:N<2^(m+1)):N/2^m%2=1↔2^m≤N:=by
 have hp:=Nat.two_pow_pos m
 rw[Nat.pow_succ]at h
 have h1:N/2^m<2:=Nat.div_lt_of_lt_mul h
 have h2:1≤N/2^m↔2^m≤N:=by rw[Nat.le_div_iff_mul_le hp,Nat.one_mul]
 generalize N/2^m=q at*
 omega
theorem sx_nat {N m:Nat}(hm:m≤63)(h:N<2^(m+1)):sx m (IntKind.wrap .i64 (N:Int))=if 2^m≤N then(N:Int)-2^(m+1)else(N:Int):=by
 have h64:N<2^64:=Nat.lt_of_lt_of_le h (Nat.pow_le_pow_right (by decide) (by omega))
 have hu:IntKind.wrap .i64 (N:Int)%2^64=(N:Int):=by rw[←bf,bV,eJ h64]
 have hd:(2:Int)^(m+1)∣2^64:=⟨2^(63-m),by rw[←Int.pow_add];congr 1;omega⟩
 have hl:IntKind.wrap .i64 (N:Int)%2^(m+1)=(N:Int):=by
  rw[←Int.emod_emod_of_dvd _ hd,hu,←i9,←Int.natCast_emod,Nat.mod_eq_of_lt h]
 unfold sx
 rw[hu,hl]
 have e:((N:Int)/2^m%2=1)↔(2^m≤N):=by
  rw[←bit_top h,←i9,←Int.natCast_ediv];omega
 simp only[e]
theorem zE {v:Int}(hv:I64 v):dh .i64 v 63=if v<0 then -1 else 0:=by
 unfold I64 at hv
 unfold dh
 show Int.fdiv v (2^63)=_
 rw[Int.fdiv_eq_ediv_of_nonneg _ (by decide)]
 split<;>omega
theorem yw {n:Nat}(hn:n=1∨n=2∨n=4)(hi lo:Int):I64 (oE true n hi lo)∧oE true n hi lo=sx (16*n-1) (IntKind.wrap .i64 (qr n hi lo)):=by
 have e:oE true n hi lo=sx (16*n-1) (IntKind.wrap .i64 (qr n hi lo)):=by
  have hlt:=lx n hi lo
  rw[sx_nat (by omega) (by rw[show 16*n-1+1=16*n by omega];exact hlt)]
  unfold oE
  rw[show 16*n-1+1=16*n by omega]
  simp only[true_and]
 refine⟨?_,e⟩
 rw[e]
 exact le _ (by omega) _
theorem wm {n:Nat}{hi lo:Int}(hn:cM (n:Int)=true)(hh:I64 hi)(hl:I64 lo)(sg:Bool):
  ∃h l,eP (((n:Int),hi,lo,sg,()),())=some ((h,l,()),())∧I64 h∧I64 l∧
   ((uns h:Int)*18446744073709551616+uns l=if oE sg n hi lo<0 then oE sg n hi lo+340282366920938463463374607431768211456 else oE sg n hi lo)∧(sg=true→(h<0↔oE sg n hi lo<0)):=by
 unfold eP
 dsimp only
 by_cases h8:n=8
 ·subst h8
  rw[bU (by rfl),bn]
  refine⟨hi,lo,rfl,hh,hl,?_,?_⟩
  ·have hN:=zX hi lo
   have h1:=fj hi
   have h2:=fj lo
   unfold oE
   rw[show(2:Nat)^(16*8-1)=170141183460469231731687303715884105728 from rfl,show(2:Int)^(16*8)=340282366920938463463374607431768211456 from rfl]
   have hlt:qr 8 hi lo<340282366920938463463374607431768211456:=lx 8 hi lo
   by_cases hc:sg=true∧170141183460469231731687303715884105728≤qr 8 hi lo
   ·rw[if_pos hc];omega
   ·rw[if_neg hc];omega
  ·rintro rfl
   have hN:=zX hi lo
   have h1:=bf hi
   have h2:=fj lo
   unfold oE
   rw[show(2:Nat)^(16*8-1)=170141183460469231731687303715884105728 from rfl,show(2:Int)^(16*8)=340282366920938463463374607431768211456 from rfl]
   have hlt:qr 8 hi lo<340282366920938463463374607431768211456:=lx 8 hi lo
   unfold I64 at hh
   simp only[true_and]
   by_cases hc:170141183460469231731687303715884105728≤qr 8 hi lo
   ·rw[if_pos hc];omega
   ·rw[if_neg hc];omega
 ·have h3:n=1∨n=2∨n=4:=by rcases vH hn with h|h|h|h<;>omega
  rw[aP (show(n:Int)≠8 by omega),aL,bg _ n hn,bg _ n hn,af,af]
  dsimp only
  rw[cx (a:=8) (by omega) (by omega),ag (fT (by omega)),join_n h3 hh hl]
  cases sg with
  |true=>
   rw[bn,cx (a:=2) (by omega) (by omega),kB _ _ (by omega) (by omega),af]
   dsimp only
   rw[show(8*(2*(n:Int))-1).toNat=16*n-1 by omega]
   obtain⟨hI,he⟩:=yw h3 hi lo
   rw[←he]
   generalize oE true n hi lo=X at*
   refine⟨_,_,rfl,by rw[zE hI];split<;>(unfold I64;omega),hI,?_,?_⟩
   ·rw[zE hI]
    have hc:=bf X
    unfold I64 at hI
    by_cases hX:X<0
    ·rw[if_pos hX,if_pos hX,show uns (-1)=18446744073709551615 from rfl];omega
    ·rw[if_neg hX,if_neg hX,show uns 0=0 from rfl];omega
   ·intro _
    rw[zE hI]
    by_cases hX:X<0
    ·rw[if_pos hX];omega
    ·rw[if_neg hX];omega
  |false=>
   rw[aL]
   refine⟨_,_,rfl,by unfold I64;omega,ax _,?_,fun h=>by cases h⟩
   have hlt:=lx n hi lo
   have h64:qr n hi lo<2^64:=Nat.lt_of_lt_of_le hlt (Nat.pow_le_pow_right (by decide) (by omega))
   rw[bV,eJ h64]
   have e:oE false n hi lo=(qr n hi lo:Int):=if_neg (fun h=>by cases h.1)
   rw[e,if_neg (by omega),show uns 0=0 from rfl]
   omega
theorem sK {h l:Int}:∃h' l',dI ((h,l,()),())=some ((h',l',()),())∧I64 h'∧I64 l'∧
  (uns h':Int)*18446744073709551616+uns l'=(340282366920938463463374607431768211456-((uns h:Int)*18446744073709551616+uns l))%340282366920938463463374607431768211456:=by
 have hh:=fj h
 have hl:=fj l
 have hu:∀v,qk (aH .u64 v)=true:=fun v=>by
  rw[fY]
  have:=fj v
  exact decide_eq_true (by omega)
 unfold dI
 dsimp only
 rw[hu,hu,show qk 0=true from rfl,show vG 0=true from rfl,bn,bn,bn,bn,bn]
 have hc:vG (i7 0 (aH .u64 l) 0)=true:=by
  unfold i7 vG
  split<;>rfl
 rw[hc,bn,fY,fY]
 refine⟨_,_,rfl,ax _,ax _,?_⟩
 unfold aH
 have e:∀z:Int,((uns (z%18446744073709551616):Nat):Int)=z%18446744073709551616:=fun z=>by
  rw[bf,show(2:Int)^64=18446744073709551616 from rfl];omega
 rw[bV,bV]
 unfold ki i7
 rw[e,e]
 generalize uns h=a at*
 generalize uns l=b at*
 split<;>omega
theorem pf {h l d:Int}:
  cR ((h,l,d,()),())=some (if uns d≤uns h then((0,0,16,()),())else((IntKind.wrap .i64 (((uns h*18446744073709551616+uns l)/uns d:Nat):Int),IntKind.wrap .i64 (((uns h*18446744073709551616+uns l)%uns d:Nat):Int),0,()),())):=by
 unfold cR cd
 dsimp only
 rw[af,fY,fY,fY]
 dsimp only
 by_cases hc:uns d≤uns h
 ·rw[nW (by omega),dO,bn,if_pos hc]
 ·rw[nX (by omega),bP,aL,yc (by omega) (fj d) (fj l),af,if_neg hc]
  rfl
theorem sx_low {n:Nat}(hn:cM (n:Int)=true)(d:Int):sx (8*n-1) (dc d n)=sx (8*n-1) d:=by
 have h18:=fi hn
 unfold dc
 by_cases h8:n=8
 ·rw[if_pos h8]
 ·rw[if_neg h8]
  have h3:n=1∨n=2∨n=4:=by rcases vH hn with h|h|h|h<;>omega
  unfold sx
  rcases h3 with rfl|rfl|rfl
  ·rw[show(2:Int)^(8*1-1+1)=256 from rfl,show(2:Int)^(8*1-1)=128 from rfl,show(2:Int)^64=18446744073709551616 from rfl]
   split<;>split<;>omega
  ·rw[show(2:Int)^(8*2-1+1)=65536 from rfl,show(2:Int)^(8*2-1)=32768 from rfl,show(2:Int)^64=18446744073709551616 from rfl]
   split<;>split<;>omega
  ·rw[show(2:Int)^(8*4-1+1)=4294967296 from rfl,show(2:Int)^(8*4-1)=2147483648 from rfl,show(2:Int)^64=18446744073709551616 from rfl]
   split<;>split<;>omega
def v3 (M B:Nat):Bool:=decide (B*18446744073709551616≤M)
def zY (t:Bool)(n q:Nat):Bool:=if t=true then decide (2^(8*n-1)<q)else decide (2^(8*n-1)≤q)
def divT (X D:Int):Bool:=decide (X<0) != decide (D<0)
def negI (t:Bool)(q:Nat):Int:=if t=true then -(q:Int)else(q:Int)
def divR (sg:Bool)(n:Nat)(X D:Int)(q r:Nat):Int×Int×Bool:=
 if v3 X.natAbs D.natAbs=true then(0,0,false)
 else if sg=false then(jH n (q:Int),jH n (r:Int),decide (q<2^(8*n)))
 else if zY (divT X D) n q=true then(0,0,false)
 else(jH n (negI (divT X D) q),jH n (negI (decide (X<0)) r),true)
def yt (op:Int)(n:Nat)(hi lo d:Int):Int×Int×Bool:=
 divR (decide (op=16)) n (oE (decide (op=16)) n hi lo) (mQ (decide (op=16)) n d) ((oE (decide (op=16)) n hi lo).natAbs/(mQ (decide (op=16)) n d).natAbs) ((oE (decide (op=16)) n hi lo).natAbs%(mQ (decide (op=16)) n d).natAbs)
theorem my {n:Nat}(hn:cM (n:Int)=true)(z:Int):dc (IntKind.wrap .i64 z) n=jH n z:=by
 refine sB hn (ax _) ?_
 rw[bV,bf,Int.emod_emod_of_dvd z (by have:=dvd64 (fi hn).2;exact this)]
theorem lV {a b:Int}(h:a%18446744073709551616=b%18446744073709551616):IntKind.wrap .i64 a=IntKind.wrap .i64 b:=by
 simp only[IntKind.wrap,IntKind.bits,show(2:Int)^64=18446744073709551616 from rfl,h]
theorem jI (x:Int):IntKind.wrap .i64 x%18446744073709551616=x%18446744073709551616:=by
 have:=bV x
 have h1:=bf (IntKind.wrap .i64 x)
 have h2:=bf x
 rw[this]at h1
 rw[show(2:Int)^64=18446744073709551616 from rfl]at h1 h2
 omega
theorem t4 (z:Int):aT .i64 0 (IntKind.wrap .i64 z)=IntKind.wrap .i64 (-z):=by
 unfold aT
 refine lV ?_
 have:=jI z
 omega
theorem divX_bd {sg:Bool}{n:Nat}(hn:cM (n:Int)=true)(hi lo:Int): -170141183460469231731687303715884105728≤oE sg n hi lo∧oE sg n hi lo<340282366920938463463374607431768211456∧(sg=false→0≤oE sg n hi lo):=by
 have hlt:=lx n hi lo
 unfold oE
 generalize qr n hi lo=N at*
 rcases vH hn with rfl|rfl|rfl|rfl
 ·rw[show(2:Nat)^(16*1)=65536 from rfl]at hlt
  rw[show(2:Nat)^(16*1-1)=32768 from rfl,show(2:Int)^(16*1)=65536 from rfl]
  split
  ·rename_i h;exact⟨by omega,by omega,fun g=>by rw[g]at h;cases h.1⟩
  ·omega
 ·rw[show(2:Nat)^(16*2)=4294967296 from rfl]at hlt
  rw[show(2:Nat)^(16*2-1)=2147483648 from rfl,show(2:Int)^(16*2)=4294967296 from rfl]
  split
  ·rename_i h;exact⟨by omega,by omega,fun g=>by rw[g]at h;cases h.1⟩
  ·omega
 ·rw[show(2:Nat)^(16*4)=18446744073709551616 from rfl]at hlt
  rw[show(2:Nat)^(16*4-1)=9223372036854775808 from rfl,show(2:Int)^(16*4)=18446744073709551616 from rfl]
  split
  ·rename_i h;exact⟨by omega,by omega,fun g=>by rw[g]at h;cases h.1⟩
  ·omega
 ·rw[show(2:Nat)^(16*8)=340282366920938463463374607431768211456 from rfl]at hlt
  rw[show(2:Nat)^(16*8-1)=170141183460469231731687303715884105728 from rfl,show(2:Int)^(16*8)=340282366920938463463374607431768211456 from rfl]
  split
  ·rename_i h;exact⟨by omega,by omega,fun g=>by rw[g]at h;cases h.1⟩
  ·omega
theorem wN {n:Nat}(hn:cM (n:Int)=true):uns (gP .i64 1 (8*(n:Int)-1))=2^(8*n-1):=by
 rcases vH hn with rfl|rfl|rfl|rfl<;>decide +kernel
theorem qv (a b:Int):cd ((a,b,()),())=some (decide (uns a<uns b),()):=by
 unfold cd
 dsimp only
 rw[fY,fY]
 unfold ltI
 simp only[Int.ofNat_lt]
theorem yB {n:Nat}(hn:cM (n:Int)=true){q:Nat}(hq:q<18446744073709551616):eqI (jH n (q:Int)) (IntKind.wrap .i64 (q:Int))=decide (q<2^(8*n)):=by
 unfold eqI
 have h1:=rN n (fi hn).2 (q:Int)
 have h2:uns (IntKind.wrap .i64 (q:Int))=q:=by rw[bV,eJ hq]
 have h3:((q:Int)%2^(8*n)).toNat=q%2^(8*n):=by
  rw[←i9,←Int.natCast_emod,Int.toNat_natCast]
 rw[h3]at h1
 by_cases h:q<2^(8*n)
 ·rw[decide_eq_true h]
  refine decide_eq_true (iV (fZ ..) (ax _) ?_)
  rw[h1,h2,Nat.mod_eq_of_lt h]
 ·rw[decide_eq_false h]
  refine decide_eq_false (fun he=>?_)
  rw[he,h2]at h1
  have:=Nat.mod_lt q (Nat.two_pow_pos (8*n))
  omega
theorem v4 {op hi lo d:Int}{n:Nat}(hn:cM (n:Int)=true)(hh:I64 hi)(hl:I64 lo)(hd:I64 d):
  dS ((op,(n:Int),hi,lo,d,()),())=some (((yt op n hi lo d).1,(yt op n hi lo d).2.1,(yt op n hi lo d).2.2,()),()):=by
 obtain⟨h1,h8⟩:=fi hn
 unfold dS
 dsimp only
 obtain⟨sg,hsg⟩:∃sg:Bool,sg=decide (op=16):=⟨_,rfl⟩
 have heq:eqI op 16=sg:=by rw[hsg];rfl
 rw[heq]
 obtain⟨h,l,e1,hI,lI,hX,hlt⟩:=wm hn hh hl sg
 rw[e1,af,bg _ n hn,af]
 dsimp only
 have hxb:=divX_bd (sg:=sg) hn hi lo
 unfold yt
 rw[←hsg]
 obtain⟨X,hXe⟩:∃X,X=oE sg n hi lo:=⟨_,rfl⟩
 obtain⟨D,hDe⟩:∃D,D=mQ sg n d:=⟨_,rfl⟩
 have hDb:=fac_bd sg hn d
 rw[←hXe]at hX hlt hxb
 rw[←hDe]at hDb
 rw[←hXe,←hDe]
 obtain⟨q,hq⟩:∃q,q=X.natAbs/D.natAbs:=⟨_,rfl⟩
 obtain⟨r,hr⟩:∃r,r=X.natAbs%D.natAbs:=⟨_,rfl⟩
 rw[←hq,←hr]
 obtain⟨D1,hD1⟩:∃D1,D1=if sg=true then D else dc d n:=⟨_,rfl⟩
 refine(Ret.bnd (Q:=fun y=>y=Sum.inl (((n:Int),h,l,D1,sg,()),())) ?_ ?_).eq
 ·cases sg with
  |true=>
   rw[bn,kB _ _ (by omega) (by omega),af,show(8*(n:Int)-1).toNat=8*n-1 by omega,sx_low hn,hD1,if_pos rfl,hDe]
   exact Ret.some rfl
  |false=>
   rw[aL,hD1,if_neg (by decide)]
   exact Ret.some rfl
 rintro _ rfl
 rw[aE]
 dsimp only
 have hbel:br sg (some (ltI h 0)) (some false)=some (decide (X<0)):=by
  cases sg with
  |true=>rw[bn];unfold ltI;simp only[hlt rfl]
  |false=>rw[aL,decide_eq_false (show ¬X<0 by have:=hxb.2.2 rfl;omega)]
 rw[hbel,af]
 refine Ret.bnd (Q:=fun y=>∃h' l',I64 h'∧I64 l'∧uns h'*18446744073709551616+uns l'=X.natAbs∧y=Sum.inl (((n:Int),h',l',D1,sg,decide (X<0),false,()),())) ?_ ?_
 ·by_cases hx:X<0
  ·rw[decide_eq_true hx,bn]
   obtain⟨h',l',e2,hI',lI',hO⟩:=sK (h:=h) (l:=l)
   rw[e2,af]
   refine Ret.some ⟨h',l',hI',lI',?_,rfl⟩
   rw[hX,if_pos hx]at hO
   omega
  ·rw[decide_eq_false hx,aL]
   refine Ret.some ⟨h,l,hI,lI,?_,rfl⟩
   rw[if_neg hx]at hX
   omega
 rintro _ ⟨h',l',hI',lI',hM,rfl⟩
 rw[aE]
 dsimp only
 have htur:br sg (some (ltI D1 0)) (some false)=some (decide (D<0)):=by
  cases sg with
  |true=>rw[bn,hD1,if_pos rfl];rfl
  |false=>rw[aL,decide_eq_false (show ¬D<0 by have:=hDb.2.2.2 rfl;omega)]
 rw[htur,af]
 refine Ret.bnd (Q:=fun y=>∃d',uns d'=D.natAbs∧y=Sum.inl (((n:Int),h',l',d',sg,decide (X<0),decide (D<0),()),())) ?_ ?_
 ·have hb63:sg=true→ -9223372036854775808≤D∧D<9223372036854775808:=fun g=>by
   have h5:(2:Nat)^(8*n-1)≤2^63:=Nat.pow_le_pow_right (by decide) (by omega)
   have h6:(2:Int)^(8*n-1)≤9223372036854775808:=by
    have:=i9 (8*n-1)
    rw[←this];exact Int.ofNat_le.2 h5
   have:=hDb.1
   have:=hDb.2.2.1 g
   omega
  by_cases hx:D<0
  ·have hs:sg=true:=by
    cases sg with
    |true=>rfl
    |false=>have:=hDb.2.2.2 rfl;omega
   subst hs
   rw[decide_eq_true hx,bn,hD1,if_pos rfl]
   refine Ret.some ⟨aT .i64 0 D,?_,rfl⟩
   have hb:=hb63 rfl
   unfold aT
   rw[bV,show 0-D=((D.natAbs:Nat):Int)by omega,eJ (by omega)]
  ·rw[decide_eq_false hx,aL]
   refine Ret.some ⟨D1,?_,rfl⟩
   cases sg with
   |true=>
    rw[hD1,if_pos rfl]
    have hb:=hb63 rfl
    obtain⟨k,hk⟩:∃k:Nat,D=k:=⟨D.natAbs,by omega⟩
    rw[hk,eJ (by omega),Int.natAbs_natCast]
   |false=>
    rw[hD1,if_neg (by decide),iW hd hn,hDe]
    unfold mQ
    rw[if_neg (by decide),Int.natAbs_natCast]
 rintro _ ⟨d',hd',rfl⟩
 rw[aE]
 dsimp only[p5,p6]
 rw[pf,af,hM,hd']
 have hl64:=fj l'
 by_cases hov:D.natAbs≤uns h'
 ·have hb:v3 X.natAbs D.natAbs=true:=decide_eq_true (by omega)
  unfold divR
  rw[if_pos hov,if_pos hb]
  exact Ret.some rfl
 have hb:¬v3 X.natAbs D.natAbs=true:=fun g=>by
  have:=of_decide_eq_true g
  omega
 rw[if_neg hov]
 dsimp only
 have hq64:q<18446744073709551616:=by rw[hq];exact Nat.div_lt_of_lt_mul (by omega)
 rw[←hq,←hr,show aX (eqI 0 0)=false from rfl,aL]
 clear hov hXe hDe hq hr hM hd' hxb hDb hbel htur hD1
 cases sg with
 |false=>
  rw[show aX false=true from rfl,bn,bg _ n hn,bg _ n hn,af,af,af]
  dsimp only
  rw[my hn,my hn,yB hn hq64]
  unfold divR
  rw[if_neg hb,if_pos rfl]
  exact Ret.some rfl
 |true=>
  rw[show aX true=false from rfl,aL]
  rw[cx (a:=8) (by omega) (by omega),gb (by omega) (by omega),ag (fT (by omega)),qv,qv,af,af,wN hn,bV,eJ hq64]
  have hnB:∀a b:Bool,aX (eqB a b)=(a != b):=fun a b=>by cases a<;>cases b<;>rfl
  rw[hnB,show(decide (X<0) != decide (D<0))=divT X D from rfl]
  dsimp only
  unfold divR
  rw[if_neg hb,if_neg (show ¬true=false by decide)]
  obtain⟨t,ht⟩:∃t:Bool,t=divT X D:=⟨_,rfl⟩
  rw[←ht]
  by_cases hf:zY t n q=true
  ·rw[if_pos hf]
   refine Ret.bnd (Q:=fun y=>y=Sum.inr ((0,0,false,()),())) ?_ ?_
   ·cases t with
    |true=>
     have hf':2^(8*n-1)<q:=of_decide_eq_true hf
     rw[bn,decide_eq_true hf',bn]
     exact Ret.some rfl
    |false=>
     have hf':2^(8*n-1)≤q:=of_decide_eq_true hf
     rw[aL,decide_eq_false (by omega),show aX false=true from rfl,bn]
     exact Ret.some rfl
   ·rintro _ rfl
    rw[rL]
    exact Ret.some rfl
  ·rw[if_neg hf]
   refine Ret.bnd (Q:=fun y=>y=Sum.inl (((n:Int),decide (X<0),IntKind.wrap .i64 (negI t q),IntKind.wrap .i64 (r:Int),()),())) ?_ ?_
   ·cases t with
    |true=>
     have hf':¬2^(8*n-1)<q:=fun g=>hf (decide_eq_true g)
     rw[bn,decide_eq_false hf',aL,t4]
     exact Ret.some rfl
    |false=>
     have hf':¬2^(8*n-1)≤q:=fun g=>hf (decide_eq_true g)
     rw[aL,decide_eq_true (by omega),show aX true=false from rfl,aL]
     exact Ret.some rfl
   rintro _ rfl
   rw[aE]
   dsimp only
   refine Ret.bnd (Q:=fun y=>y=Sum.inl (((n:Int),IntKind.wrap .i64 (negI t q),IntKind.wrap .i64 (negI (decide (X<0)) r),()),())) ?_ ?_
   ·cases decide (X<0)with
    |true=>
     rw[bn,t4]
     exact Ret.some rfl
    |false=>
     rw[aL]
     exact Ret.some rfl
   rintro _ rfl
   rw[aE]
   dsimp only
   rw[bg _ n hn,bg _ n hn,af,af]
   dsimp only
   rw[my hn,my hn]
   exact Ret.some rfl
theorem yu {op hi lo d:Int}{n:Nat}:I64 (yt op n hi lo d).1∧I64 (yt op n hi lo d).2.1:=by
 have z:I64 0:=by unfold I64;omega
 unfold yt divR
 split
 ·exact⟨z,z⟩
 split
 ·exact⟨fZ ..,fZ ..⟩
 split
 ·exact⟨z,z⟩
 ·exact⟨fZ ..,fZ ..⟩
noncomputable section
theorem mS (m:List Page)(a p:Int):∀(n:Nat) (k:Int),dB m a p n k=0∨dB m a p n k=13∨dB m a p n k=14
 |0,k=> .inl rfl
 |n+1,k=>by
  have ih:=mS m a p n (k+1)
  unfold dB
  split
  ·exact .inr (.inl rfl)
  ·split
   ·exact .inr (.inr rfl)
   ·exact ih
def i6 (m:List Page)(a:Int)(n:Nat)(v:Int):List Page×Int:=
 match bG (((m,()),(a,((n:Int),(v,())))),())with
 |some x=>(x.2.1,x.1.2.1)
 |none=>(m,0)
theorem uh (m:List Page)(hm:MemT m)(a v:Int)(n:Nat)(hn:cM (n:Int)=true)(ha:I64 a):
  bG (((m,()),(a,((n:Int),(v,())))),())=some (((),((i6 m a n v).2,())),((i6 m a n v).1,()))∧
   ((((i6 m a n v).2=13∨(i6 m a n v).2=14)∧(i6 m a n v).1=m∧(i6 m a n v).2=dB m a 2 n 0∧dB m a 2 n 0≠0)∨((i6 m a n v).2=0∧dB m a 2 n 0=0∧Laid m a (leB v n) n (i6 m a n v).1)):=by
 obtain⟨n1,n8⟩:=fi hn
 have hl:=hm.len
 have key:∃x e,bG (((m,()),(a,((n:Int),(v,())))),())=some (((),(e,())),(x,()))∧
   (((e=13∨e=14)∧x=m∧e=dB m a 2 n 0∧dB m a 2 n 0≠0)∨(e=0∧dB m a 2 n 0=0∧Laid m a (leB v n) n x)):=by
  unfold bG
  dsimp only
  rw[kP m hm.r a 2 n (by omega) ha (by decide) n1,af]
  dsimp only
  by_cases hf:dB m a 2 n 0=0
  ·have hok:=mR hm.r n 0 hf
   have hok:∀k,k<(leB v n).length→¬fnd m (a+(k:Nat))<0:=fun k hk=>hok k (Nat.zero_le _) (by rw[sy]at hk;omega)
   obtain⟨x,hx1,hx2⟩:=lay_ex m hm a (leB v n) ha (by rw[sy];omega) hok
   rw[sy]at hx2
   refine⟨x,0,?_,.inr ⟨rfl,hf,hx2⟩⟩
   rw[hf,bU rfl,bP,aL,wO v n n8,af,hx1,af]
  ·refine⟨m,dB m a 2 n 0,?_,.inl ⟨by rcases mS m a 2 n 0 with h|h|h;exact absurd h hf;exact .inl h;exact .inr h,rfl,rfl,hf⟩⟩
   rw[aP hf,dO,bn,pp m (by omega),af]
 obtain⟨x,e,h1,h2⟩:=key
 unfold i6
 rw[h1]
 exact⟨rfl,h2⟩
theorem zI {m:List Page}(hm:MemT m){a v:Int}{n:Nat}(hn:cM (n:Int)=true)(ha:I64 a):MemT (i6 m a n v).1:=by
 rcases(uh m hm a v n hn ha).2 with ⟨_,h,_⟩|⟨_,_,h⟩
 ·rw[h];exact hm
 ·exact h.memT hm
theorem wR (m:List Page)(a:Int)(n:Nat):I64 (q7 m a n).1:=by
 unfold q7
 split
 ·exact ax _
 ·unfold I64;dsimp only;omega
structure MS where
 g:List Int
 m:List Page
 code:Int
 l:List Acc
abbrev TM:=(List Int×Int×Int×Int×Int×Unit)×List Page×List Acc×Unit
def MS.t (s:MS)(rip fl nx:Int):TM:=((s.g,rip,fl,nx,s.code,()),s.m,s.l,())
abbrev rg (g:List Int)(i:Int):Int:=aQ g i (aD .i)
def iY (g:List Int):Prop:=∀i,I64 (rg g i)
structure MS.ok (s:MS)(k:Nat):Prop where
 m:MemT s.m
 l:s.l.length≤k
 g:iY s.g
theorem MS.ok.mono {s:MS}{k j:Nat}(h:s.ok k)(hk:k≤j):s.ok j:=⟨h.m,Nat.le_trans h.l hk,h.g⟩
def MS.ld (s:MS)(a:Int)(n:Nat):Int×MS:=
 if s.code≠0 then(0,s)else((q7 s.m a n).1,{s with code:=(q7 s.m a n).2,l:=s.l++[Acc.mk 1 a n (q7 s.m a n).1]})
def MS.st (s:MS)(a:Int)(n:Nat)(v:Int):MS:=
 if s.code≠0 then s else {s with m:=(i6 s.m a n v).1,code:=(i6 s.m a n v).2,l:=s.l++[Acc.mk 2 a n (dc v n)]}
theorem fits1 {α:Type}{xs:List α}{x:α}(h:xs.length≤1000):fa xs [x]=true:=by
 exact iK (by simp;omega)
theorem wS {s:MS}{k:Nat}(hs:s.ok k)(hk:k≤1000){a:Int}(ha:I64 a){n:Nat}(hn:cM (n:Int)=true)(rip fl nx:Int):
  aC ((a,((n:Int),())),s.t rip fl nx)=some ((s.ld a n).1,(s.ld a n).2.t rip fl nx):=by
 obtain⟨n1,n8⟩:=fi hn
 unfold aC MS.t MS.ld
 dsimp only
 by_cases hc:s.code=0
 ·rw[hc,if_neg (by simp),bU rfl,bP,aL,qU _ hs.m.r a n n1 n8 ha,af]
  dsimp only
  rw[fits1 (Nat.le_trans hs.l hk),bn]
  rfl
 ·rw[if_pos hc,aP hc,dO,bn]
theorem sT {s:MS}{k:Nat}(hs:s.ok k)(hk:k≤1000){a v:Int}(ha:I64 a){n:Nat}(hn:cM (n:Int)=true)(rip fl nx:Int):
  au ((a,((n:Int),(v,()))),s.t rip fl nx)=some ((),(s.st a n v).t rip fl nx):=by
 unfold au MS.t MS.st
 dsimp only
 by_cases hc:s.code=0
 ·rw[hc,if_neg (by simp),bU rfl,bP,aL,(uh _ hs.m a v n hn ha).1,af,bg v n hn,af]
  dsimp only
  rw[fits1 (Nat.le_trans hs.l hk),bn]
  rfl
 ·rw[if_pos hc,aP hc,dO,bn]
theorem MS.ok.ld {s:MS}{k:Nat}(hs:s.ok k)(a:Int)(n:Nat):(s.ld a n).2.ok (k+1)∧I64 (s.ld a n).1∧(s.ld a n).2.g=s.g∧(s.ld a n).2.m=s.m:=by
 unfold MS.ld
 split
 ·exact⟨hs.mono (Nat.le_succ k),by unfold I64;dsimp only;omega,rfl,rfl⟩
 ·exact⟨⟨hs.m,by simp;exact hs.l,hs.g⟩,wR ..,rfl,rfl⟩
theorem MS.ok.st {s:MS}{k:Nat}(hs:s.ok k){a:Int}(ha:I64 a){n:Nat}(hn:cM (n:Int)=true)(v:Int):(s.st a n v).ok (k+1)∧(s.st a n v).g=s.g:=by
 unfold MS.st
 split
 ·exact⟨hs.mono (Nat.le_succ k),rfl⟩
 ·exact⟨⟨zI hs.m hn ha,by simp;exact hs.l,hs.g⟩,rfl⟩
def setA (g:List Int)(i v:Int):List Int:=cF (dQ 16 (aD .i) g) i v
def lB (g:List Int)(r:Int)(n:Nat):Int:=if 16≤r then dc (dh .i64 (rg g (r-16)) 8) 1 else dc (rg g r) n
def rD (g:List Int)(r:Int)(n:Nat)(v:Int):List Int:=
 if 16≤r then setA g (r-16) (ior .i64 (gG .i64 (rg g (r-16)) 65280) (gP .i64 (dc v 1) 8))
 else if 4≤n then setA g r (dc v n)
 else setA g r (aF .i64 (rg g r) (aT .i64 (dc v n) (dc (rg g r) n)))
theorem iY.setA {g:List Int}(h:iY g){i v:Int}(hv:I64 v):iY (setA g i v):=by
 intro j
 have h0:∀k:Nat,I64 (((dQ 16 (aD .i) g)).getD k (aD .i)):=fun k=>by
  unfold dQ
  rw[List.getD_eq_getElem?_getD,List.getElem?_append]
  split
  ·have:=h (k:Int)
   unfold rg aQ at this
   rw[Int.toNat_natCast,List.getD_eq_getElem?_getD]at this
   exact this
  ·rw[List.getElem?_replicate]
   split
   ·exact(by unfold I64;decide:I64 (0:Int))
   ·exact(by unfold I64;decide:I64 (0:Int))
 unfold rg aQ Go.Den.G.setA cF
 rw[List.getD_eq_getElem?_getD,List.getElem?_set]
 split
 ·split
  ·exact hv
  ·exact(by unfold I64;decide:I64 (0:Int))
 ·have:=h0 j.toNat
  rw[List.getD_eq_getElem?_getD]at this
  exact this
theorem tH {g:List Int}(h:iY g){r:Int}{n:Nat}(hn:cM (n:Int)=true):I64 (lB g r n):=by
 unfold lB
 split
 ·exact fd (by
   have:=h (r-16)
   unfold I64 at this⊢
   unfold dh
   rw[show(2:Int)^min (Int.toNat 8) IntKind.i64.bits=256 from rfl,Int.fdiv_eq_ediv_of_nonneg _ (by decide)]
   omega) (by rfl)
 ·exact fd (h r) hn
theorem kA {g:List Int}(h:iY g){r v:Int}(hv:I64 v){n:Nat}(hn:cM (n:Int)=true):iY (rD g r n v):=by
 unfold rD
 split
 ·exact h.setA (jb ..)
 ·split
  ·exact h.setA (fd hv hn)
  ·exact h.setA (ax _)
theorem jo (r:Int):ap ((r,()),())=some (decide (16≤r∧r≤19),()):=by
 unfold ap
 dsimp only
 rw[jG,af]
 congr 2
 unfold inB
 rw[Bool.eq_iff_iff]
 simp
def gd (g:List Int)(nx:Int)(o:Opd):Int:=
 let a:=if o.base=16 then aF .i64 o.disp nx else if 0≤o.base then aF .i64 o.disp (rg g o.base)else o.disp
 if 0≤o.index then aF .i64 a (bq .i64 (rg g o.index) o.scale)else a
structure OpV (o:Opd)(z:Int):Prop where
 r:o.kind≠2→(o.kind=1→qu o.reg z)
 b:o.kind=2→o.base≤16∧o.index≤15
 d:I64 o.disp
 i:I64 o.imm
theorem mq {g:List Int}{nx:Int}{o:Opd}{z:Int}(h:OpV o z):I64 (gd g nx o):=by
 unfold gd
 dsimp only
 split
 ·exact ax _
 ·split
  ·exact ax _
  ·split
   ·exact ax _
   ·exact h.d
def MS.rd (s:MS)(nx:Int)(o:Opd)(n:Nat):Int×MS:=
 if o.kind=1 then(lB s.g o.reg n,s)else if o.kind=2 then s.ld (gd s.g nx o) n else(o.imm,s)
def MS.wr (s:MS)(nx:Int)(o:Opd)(n:Nat)(v:Int):MS:=
 if o.kind=2 then s.st (gd s.g nx o) n v else {s with g:=rD s.g o.reg n v}
theorem Ao {s:MS}{k:Nat}(hs:s.ok k)(hk:k≤1000){o:Opd}{n:Nat}(hn:cM (n:Int)=true)(hv:OpV o n)(rip fl nx:Int):
  an ((ck o (),((n:Int),())),s.t rip fl nx)=some ((s.rd nx o n).1,(s.rd nx o n).2.t rip fl nx):=by
 unfold an
 dsimp only[ck,p5,p6]
 have hI:=mq (g:=s.g) (nx:=nx) hv
 have hl:=wS hs hk hI hn rip fl nx
 by_cases h1:o.kind=1
 ·have hr:=hv.r (by omega) h1
  unfold MS.rd
  rw[if_pos h1,bU h1,bn,jo,af]
  unfold qu at hr
  dsimp only
  unfold lB MS.t
  by_cases h16:16≤o.reg
  ·rw[decide_eq_true ⟨h16,by omega⟩,bn,if_pos h16,gb (by omega) (by omega),ag (cj (by omega) (by omega)),show(1:Int)=((1:Nat):Int)from rfl,bg _ 1 rfl,af]
  ·rw[decide_eq_false (by omega),aL,if_neg h16,ag (cj (by omega) (by omega)),bg _ n hn,af]
 ·rw[aP h1,aL]
  by_cases h2:o.kind=2
  ·have hb:=hv.b h2
   unfold MS.rd
   rw[if_neg h1,if_pos h2,bU h2,bn]
   have hg:=(hs.ld (gd s.g nx o) n).2.2.1
   have hfin:∀a:Int,a=gd s.g nx o→(bnd (aC ((a,((n:Int),())),s.t rip fl nx)) (fun x5=>some (x5.1,((s.g,(rip,(fl,(nx,x5.2.1.2.2.2.2)))),x5.2.2))))=some ((s.ld (gd s.g nx o) n).1,(s.ld (gd s.g nx o) n).2.t rip fl nx):=by
    rintro _ rfl
    rw[hl,af]
    unfold MS.t
    dsimp only
    rw[hg]
   unfold MS.t at hfin⊢
   dsimp only
   by_cases b16:o.base=16
   ·rw[bU b16,bn]
    by_cases hi:0≤o.index
    ·rw[ag (fT hi),ag (cj hi (by omega))]
     exact hfin _ (by unfold gd;dsimp only;rw[if_pos b16,if_pos hi])
    ·rw[aB (jP hi)]
     exact hfin _ (by unfold gd;dsimp only;rw[if_pos b16,if_neg hi])
   ·rw[aP b16,aL]
    by_cases hb0:0≤o.base
    ·rw[ag (fT hb0),ag (cj hb0 (by omega))]
     by_cases hi:0≤o.index
     ·rw[ag (fT hi),ag (cj hi (by omega))]
      exact hfin _ (by unfold gd;dsimp only;rw[if_neg b16,if_pos hb0,if_pos hi])
     ·rw[aB (jP hi)]
      exact hfin _ (by unfold gd;dsimp only;rw[if_neg b16,if_pos hb0,if_neg hi])
    ·rw[aB (jP hb0)]
     by_cases hi:0≤o.index
     ·rw[ag (fT hi),ag (cj hi (by omega))]
      exact hfin _ (by unfold gd;dsimp only;rw[if_neg b16,if_neg hb0,if_pos hi])
     ·rw[aB (jP hi)]
      exact hfin _ (by unfold gd;dsimp only;rw[if_neg b16,if_neg hb0,if_neg hi])
  ·unfold MS.rd
   rw[if_neg h1,if_neg h2,aP h2,aL]
theorem set_m {g:List Int}{r v:Int}{n:Nat}(hn:cM (n:Int)=true)(hr:qu r n){α:Type}(Z:List Int→Option α):
  (bnd (ap ((r,()),())) (fun x8=>(br x8.1 (br (inR (aT .i64 r 16) 16) (bnd (aa ((v,(1,())),())) (fun x9=>Z (cF (dQ 16 (aD .i) g) (aT .i64 r 16) (ior .i64 (gG .i64 (aQ g (aT .i64 r 16) (aD .i)) 65280) (gP .i64 x9.1 8))))) none) (br (leI 4 (n:Int)) (bnd (aa ((v,((n:Int),())),())) (fun x10=>(br (inR r 16) (Z (cF (dQ 16 (aD .i) g) r x10.1)) none))) (br (inR r 16) (br (inR r 16) (bnd (aa ((v,((n:Int),())),())) (fun x11=>(bnd (aa (((aQ g r (aD .i)),((n:Int),())),())) (fun x12=>(br (inR r 16) (Z (cF (dQ 16 (aD .i) g) r (aF .i64 (aQ g r (aD .i)) (aT .i64 x11.1 x12.1)))) none))))) none) none)))))=Z (rD g r n v):=by
 unfold qu at hr
 rw[jo,af]
 dsimp only
 unfold rD Go.Den.G.setA
 by_cases h16:16≤r
 ·rw[decide_eq_true ⟨h16,by omega⟩,bn,if_pos h16,gb (by omega) (by omega),ag (cj (by omega) (by omega)),show(1:Int)=((1:Nat):Int)from rfl,bg _ 1 rfl,af]
 ·rw[decide_eq_false (by omega),aL,if_neg h16]
  have hin:inR r 16=true:=cj (by omega) (by omega)
  by_cases h4:4≤n
  ·rw[ag (fT (by omega)),bg _ n hn,af,hin,bn,if_pos h4]
  ·rw[aB (jP (by omega)),hin,bn,bn,bg _ n hn,bg _ n hn,af,af,bn,if_neg h4]
theorem write_m {s:MS}{k:Nat}(hs:s.ok k)(hk:k≤1000){o:Opd}{n:Nat}{v:Int}(hn:cM (n:Int)=true)(hv:OpV o n)(h0:o.kind=1∨o.kind=2)(rip fl nx:Int):
  aj ((ck o (),((n:Int),(v,()))),s.t rip fl nx)=some ((),(s.wr nx o n v).t rip fl nx):=by
 unfold aj
 dsimp only[ck,p5,p6]
 have hI:=mq (g:=s.g) (nx:=nx) hv
 have hl:=sT hs hk (v:=v) hI hn rip fl nx
 by_cases h2:o.kind=2
 ·have hb:=hv.b h2
  unfold MS.wr
  rw[if_pos h2,bU h2,bn]
  have hg:=(hs.st (v:=v) hI hn).2
  have hfin:∀a:Int,a=gd s.g nx o→(bnd (au ((a,((n:Int),(v,()))),s.t rip fl nx)) (fun x5=>some ((),((s.g,(rip,(fl,(nx,x5.2.1.2.2.2.2)))),x5.2.2))))=some ((),(s.st (gd s.g nx o) n v).t rip fl nx):=by
   rintro _ rfl
   rw[hl,af]
   unfold MS.t
   dsimp only
   rw[hg]
  unfold MS.t at hfin⊢
  dsimp only
  by_cases b16:o.base=16
  ·rw[bU b16,bn]
   by_cases hi:0≤o.index
   ·rw[ag (fT hi),ag (cj hi (by omega))]
    exact hfin _ (by unfold gd;dsimp only;rw[if_pos b16,if_pos hi])
   ·rw[aB (jP hi)]
    exact hfin _ (by unfold gd;dsimp only;rw[if_pos b16,if_neg hi])
  ·rw[aP b16,aL]
   by_cases hb0:0≤o.base
   ·rw[ag (fT hb0),ag (cj hb0 (by omega))]
    by_cases hi:0≤o.index
    ·rw[ag (fT hi),ag (cj hi (by omega))]
     exact hfin _ (by unfold gd;dsimp only;rw[if_neg b16,if_pos hb0,if_pos hi])
    ·rw[aB (jP hi)]
     exact hfin _ (by unfold gd;dsimp only;rw[if_neg b16,if_pos hb0,if_neg hi])
   ·rw[aB (jP hb0)]
    by_cases hi:0≤o.index
    ·rw[ag (fT hi),ag (cj hi (by omega))]
     exact hfin _ (by unfold gd;dsimp only;rw[if_neg b16,if_neg hb0,if_pos hi])
    ·rw[aB (jP hi)]
     exact hfin _ (by unfold gd;dsimp only;rw[if_neg b16,if_neg hb0,if_neg hi])
 ·have h1:o.kind=1:=by omega
  unfold MS.wr
  rw[if_neg h2,aP h2,aL]
  exact set_m hn (hv.r h2 h1) (fun g'=>some ((),((g',(rip,(fl,(nx,(s.code,()))))),(s.m,(s.l,())))))
theorem MS.ok.rd {s:MS}{k:Nat}(hs:s.ok k)(nx:Int){o:Opd}{n:Nat}(hn:cM (n:Int)=true)(hv:OpV o n):(s.rd nx o n).2.ok (k+1)∧I64 (s.rd nx o n).1∧(s.rd nx o n).2.g=s.g∧(s.rd nx o n).2.m=s.m:=by
 unfold MS.rd
 split
 ·exact⟨hs.mono (Nat.le_succ k),tH hs.g hn,rfl,rfl⟩
 ·split
  ·exact hs.ld ..
  ·exact⟨hs.mono (Nat.le_succ k),hv.i,rfl,rfl⟩
theorem MS.ok.wr {s:MS}{k:Nat}(hs:s.ok k)(nx:Int){o:Opd}{n:Nat}{v:Int}(hI:I64 v)(hn:cM (n:Int)=true)(hv:OpV o n):(s.wr nx o n v).ok (k+1):=by
 unfold MS.wr
 split
 ·exact(hs.st (mq hv) hn v).1
 ·exact⟨hs.m,Nat.le_trans hs.l (Nat.le_succ k),kA hs.g hI hn⟩
def MS.pu (s:MS)(v:Int):MS:=({s with g:=setA s.g 4 (aT .i64 (rg s.g 4) 8)}:MS).st (rg (setA s.g 4 (aT .i64 (rg s.g 4) 8)) 4) 8 v
def MS.po (s:MS):Int×MS:=((s.ld (rg s.g 4) 8).1,{(s.ld (rg s.g 4) 8).2 with g:=setA s.g 4 (aF .i64 (rg s.g 4) 8)})
theorem MS.ok.setA {s:MS}{k:Nat}(hs:s.ok k){i v:Int}(hv:I64 v):MS.ok {s with g:=Go.Den.G.setA s.g i v} k:=⟨hs.m,hs.l,hs.g.setA hv⟩
theorem MS.ok.pu {s:MS}{k:Nat}(hs:s.ok k)(v:Int):(s.pu v).ok (k+1):=by
 have h1:=hs.setA (i:=4) (v:=aT .i64 (rg s.g 4) 8) (ax _)
 exact(h1.st (h1.g 4) rfl v).1
theorem MS.ok.po {s:MS}{k:Nat}(hs:s.ok k):s.po.2.ok (k+1)∧I64 s.po.1∧s.po.2.m=s.m:=by
 have h1:=hs.ld (rg s.g 4) 8
 unfold MS.po
 exact⟨⟨h1.1.m,h1.1.l,hs.g.setA (ax _)⟩,h1.2.1,h1.2.2.2⟩
theorem push_m {s:MS}{k:Nat}(hs:s.ok k)(hk:k≤1000)(v rip fl nx:Int):bH ((v,()),s.t rip fl nx)=some ((),(s.pu v).t rip fl nx):=by
 have h1:=hs.setA (i:=4) (v:=aT .i64 (rg s.g 4) 8) (ax _)
 have h2:=sT h1 hk (a:=rg (setA s.g 4 (aT .i64 (rg s.g 4) 8)) 4) (v:=v) (n:=8) (h1.g 4) rfl rip fl nx
 have h3:=(h1.st (a:=rg (setA s.g 4 (aT .i64 (rg s.g 4) 8)) 4) (n:=8) (h1.g 4) rfl v).2
 unfold bH
 unfold MS.t at h2⊢
 dsimp only at h2 h3⊢
 have h2':au (((aQ (cF (dQ 16 (aD .i) s.g) 4 (aT .i64 (aQ s.g 4 (aD .i)) 8)) 4 (aD .i)),(8,(v,()))),(((cF (dQ 16 (aD .i) s.g) 4 (aT .i64 (aQ s.g 4 (aD .i)) 8)),(rip,(fl,(nx,(s.code,()))))),(s.m,(s.l,()))))=_:=h2
 rw[h2',af]
 unfold MS.pu
 dsimp only
 rw[h3]
 rfl
theorem pop_m {s:MS}{k:Nat}(hs:s.ok k)(hk:k≤1000)(rip fl nx:Int):bM ((),s.t rip fl nx)=some (s.po.1,s.po.2.t rip fl nx):=by
 have h2:=wS hs hk (a:=rg s.g 4) (n:=8) (hs.g 4) rfl rip fl nx
 unfold bM
 unfold MS.t at h2⊢
 dsimp only at h2⊢
 have h2':aC (((aQ s.g 4 (aD .i)),(8,())),((s.g,(rip,(fl,(nx,(s.code,()))))),(s.m,(s.l,()))))=_:=h2
 rw[h2',af]
 rfl
def MS.go (s:MS)(nx:Int)(x:Ins):Int×MS:=if x.src.kind=3 then(aF .i64 nx x.src.imm,s)else s.rd nx x.src 8
theorem goal_m {s:MS}{k:Nat}(hs:s.ok k)(hk:k≤1000){x:Ins}(hv:OpV x.src 8)(rip fl nx:Int):aY ((x,()),s.t rip fl nx)=some ((s.go nx x).1,(s.go nx x).2.t rip fl nx):=by
 have hr:=Ao hs hk (n:=8) rfl hv rip fl nx
 have hg:=(hs.rd nx (n:=8) rfl hv).2.2.1
 unfold aY MS.go
 dsimp only
 by_cases h3:x.src.kind=3
 ·rw[bU h3,bn,if_pos h3]
  rfl
 ·rw[aP h3,aL,if_neg h3]
  have hr':an ((ck x.src (),(8,())),s.t rip fl nx)=_:=hr
  rw[hr',af]
  unfold MS.t
  dsimp only
  rw[hg]
theorem MS.ok.go {s:MS}{k:Nat}(hs:s.ok k)(nx:Int){x:Ins}(hv:OpV x.src 8):(s.go nx x).2.ok (k+1)∧I64 (s.go nx x).1:=by
 unfold MS.go
 split
 ·exact⟨hs.mono (Nat.le_succ k),ax _⟩
 ·have:=hs.rd nx (n:=8) rfl hv
  exact⟨this.1,this.2.1⟩
end
set_option synthInstance.maxSize 4000
set_option synthInstance.maxHeartbeats 400000
def kOf (c:UInt8):Int:=if c=114 then 1 else if c=109 then 2 else if c=105 then 3 else 0
def kindT (n:Nat)(kd ks:Int):Bool:=
 decide ((n≤12∨17≤n∧n≤28∨n=30∨n=35∨n=36→kd=1∨kd=2)∧(n=28→ks=1)∧(n=25→kd=1∧ks=2)∧
  (n=9→kd=2→ks≠2)∧(n=26∨n=27∨n=36∨n=17→kd=1∧(ks=1∨ks=2))∧(13≤n∧n≤16→ks=1∨ks=2)∧(n=29∨n=31∨n=32→ks=1∨ks=2∨ks=3)∧(n=33→ks=3)∧
  (20≤n∧n≤24→ks=1∨ks=3)∧(n=11∨n=12∨n=18∨n=19→ks=0)∧(n≤8∨n=10∨n=17→ks=1∨ks=2∨ks=3))
theorem y7:∀n,n<45→1≤n→∀q∈prK n,q.length=2∧q.getD 0 0∈mL∧q.getD 1 0∈mL∧kindT n (kOf (q.getD 0 0)) (kOf (q.getD 1 0))=true:=by decide +kernel
theorem tR {k:Int}{c:UInt8}(hc:c∈mL)(h:ko k c):k=kOf c:=by
 have hc:c=114∨c=109∨c=105∨c=48:=by simpa[mL]using hc
 unfold ko at h
 rcases hc with rfl|rfl|rfl|rfl<;>revert h<;>unfold kOf<;>intro h<;>simp at h⊢ <;>omega
theorem y5 {n:Nat}(h1:1≤n)(h2:n<45){kd ks:Int}(h:(prK n).any (fW kd ks)=true):kindT n kd ks=true:=by
 rw[List.any_eq_true]at h
 obtain⟨q,hq,hp⟩:=h
 obtain⟨l,a,b,t⟩:=y7 n h2 h1 q hq
 match q,l with
 |[c,d],_=>
  simp only[fW,Bool.and_eq_true,decide_eq_true_eq]at hp
  rw[tR (c:=c) a hp.1,tR (c:=d) b hp.2]
  exact t
def sizeT (n:Nat)(z:Int):Bool:=decide ((n≤28∨n=36∨n=40→cM z=true)∧(n=39→z=2∨z=4∨z=8)∧(29≤n∧n≤32→z=8)∧(n=35→z=1)∧(n=33→z=0))
theorem zF:∀n,n<45→1≤n→∀z∈szL (szK n),sizeT n z=true:=by decide +kernel
structure ExV (x:Ins)(n:Nat):Prop where
 op:x.op=n
 n1:1≤n
 n2:n<45
 kt:kindT n x.dst.kind x.src.kind=true
 zt:sizeT n x.size=true
 dv:OpV x.dst x.size
 sv:OpV x.src (sSz x n)
 fr:(n=26∨n=27→cM x.frm=true)∧(¬(n=26∨n=27)→x.frm=0)
 c0:0≤x.cond
 c1:x.cond≤15
theorem zU {o:Opd}{z:Int}(h:j9 o z)(hd:I64 o.disp)(hi:I64 o.imm):OpV o z:=by
 unfold j9 opB kF at h
 refine⟨fun _ h1=>?_,fun h2=>?_,hd,hi⟩
 ·rcases h with h|h|h|h
  ·exact h.2.2.2.2.2.2
  ·omega
  ·omega
  ·omega
 ·rcases h with h|h|h|h
  ·omega
  ·omega
  ·omega
  ·omega
theorem ExV_of {x:Ins}{n:Nat}(hop:x.op=n)(h1:1≤n)(h2:n<45)(h:oJ x n)(hI:I64 x.dst.disp∧I64 x.dst.imm∧I64 x.src.disp∧I64 x.src.imm):ExV x n:=by
 obtain⟨_,_,hs,hf,_,c0,c1,hd,hsr,_⟩:=h
 unfold shB at hs
 simp only[Bool.and_eq_true,decide_eq_true_eq]at hs
 obtain⟨hz,hk,hnum⟩:=hs
 refine⟨hop,h1,h2,y5 h1 h2 hk,zF n h2 h1 _ hz,zU hd hI.1 hI.2.1,zU hsr hI.2.2.1 hI.2.2.2,⟨fun h=>?_,fun h=>?_⟩,c0,c1⟩
 ·unfold Ag at hnum
  rcases h with rfl|rfl
  ·have hnum:decide (x.frm=1∨x.frm=2∧2<x.size)=true:=hnum
   rcases of_decide_eq_true hnum with h|h
   ·rw[h];rfl
   ·rw[h.1];rfl
  ·have hnum:decide (x.frm=1∨x.frm=2∧2<x.size∨x.frm=4∧x.size=8)=true:=hnum
   rcases of_decide_eq_true hnum with h|h|h
   ·rw[h];rfl
   ·rw[h.1];rfl
   ·rw[h.1];rfl
 ·rcases hf with h'|h'
  ·exact absurd h' h
  ·exact h'
theorem ExV.kd {x:Ins}{n:Nat}(h:ExV x n):(n≤12∨17≤n∧n≤28∨n=30∨n=35∨n=36→x.dst.kind=1∨x.dst.kind=2)∧(n=28→x.src.kind=1)∧(n=25→x.dst.kind=1∧x.src.kind=2)∧
  (n=9→x.dst.kind=2→x.src.kind≠2)∧(n=26∨n=27∨n=36∨n=17→x.dst.kind=1∧(x.src.kind=1∨x.src.kind=2))∧(13≤n∧n≤16→x.src.kind=1∨x.src.kind=2)∧(n=29∨n=31∨n=32→x.src.kind=1∨x.src.kind=2∨x.src.kind=3)∧(n=33→x.src.kind=3)∧
  (20≤n∧n≤24→x.src.kind=1∨x.src.kind=3)∧(n=11∨n=12∨n=18∨n=19→x.src.kind=0)∧(n≤8∨n=10∨n=17→x.src.kind=1∨x.src.kind=2∨x.src.kind=3):=of_decide_eq_true h.kt
theorem ExV.szs {x:Ins}{n:Nat}(h:ExV x n):(n≤28∨n=36∨n=40→cM x.size=true)∧(n=39→x.size=2∨x.size=4∨x.size=8)∧(29≤n∧n≤32→x.size=8)∧(n=35→x.size=1)∧(n=33→x.size=0):=of_decide_eq_true h.zt
theorem tP {z:Int}(h:cM z=true):∃k:Nat,z=(k:Int)∧cM (k:Int)=true:=by
 obtain⟨k,hk,_⟩:=y3 h
 exact⟨k,hk,by rw[←hk];exact h⟩
noncomputable section
theorem pr_ex {r:Int×MS}{g:List Int}{m:List Page}(hg:r.2.g=g)(hm:r.2.m=m):∃v c' l',r=(v,MS.mk g m c' l'):=by
 obtain⟨v,g',m',c',l'⟩:=r
 cases hg;cases hm
 exact⟨v,c',l',rfl⟩
theorem nF {g:List Int}{m:List Page}{c:Int}{l:List Acc}{k:Nat}(hs:(MS.mk g m c l).ok k)(hk:k≤1000){o:Opd}{n:Nat}(hn:cM (n:Int)=true)(hv:OpV o n)(nx:Int):
  ∃v c' l',(MS.mk g m c l).rd nx o n=(v,⟨g,m,c',l'⟩)∧(∀rip fl,an ((ck o (),((n:Int),())),((g,rip,fl,nx,c,()),m,l,()))=some (v,((g,rip,fl,nx,c',()),m,l',())))∧(MS.mk g m c' l').ok (k+1)∧I64 v:=by
 obtain⟨h1,h2,h3,h4⟩:=hs.rd nx hn hv
 have h5:=fun rip fl=>Ao hs hk hn hv rip fl nx
 obtain⟨v,c',l',e⟩:=pr_ex h3 h4
 rw[e]at h1 h2
 refine⟨v,c',l',e,fun rip fl=>?_,h1,h2⟩
 have:=h5 rip fl
 rw[e]at this
 exact this
theorem om {g:List Int}{m:List Page}{c:Int}{l:List Acc}{k:Nat}(hs:(MS.mk g m c l).ok k)(hk:k≤1000){o:Opd}{n:Nat}(hn:cM (n:Int)=true)(hv:OpV o n)(h0:o.kind=1∨o.kind=2)(nx:Int){v:Int}(hI:I64 v):
  ∃g' m' c' l',(MS.mk g m c l).wr nx o n v=⟨g',m',c',l'⟩∧(∀rip fl,aj ((ck o (),((n:Int),(v,()))),((g,rip,fl,nx,c,()),m,l,()))=some ((),((g',rip,fl,nx,c',()),m',l',())))∧(MS.mk g' m' c' l').ok (k+1):=
 ⟨_,_,_,_,rfl,fun rip fl=>write_m hs hk hn hv h0 rip fl nx,hs.wr nx hI hn hv⟩
theorem pu_ex {g:List Int}{m:List Page}{c:Int}{l:List Acc}{k:Nat}(hs:(MS.mk g m c l).ok k)(hk:k≤1000)(v:Int):
  ∃g' m' c' l',(MS.mk g m c l).pu v=⟨g',m',c',l'⟩∧(∀rip fl nx,bH ((v,()),((g,rip,fl,nx,c,()),m,l,()))=some ((),((g',rip,fl,nx,c',()),m',l',())))∧(MS.mk g' m' c' l').ok (k+1):=
 ⟨_,_,_,_,rfl,fun rip fl nx=>push_m hs hk v rip fl nx,hs.pu v⟩
theorem po_ex {g:List Int}{m:List Page}{c:Int}{l:List Acc}{k:Nat}(hs:(MS.mk g m c l).ok k)(hk:k≤1000):
  ∃v g' m' c' l',(MS.mk g m c l).po=(v,⟨g',m',c',l'⟩)∧(∀rip fl nx,bM ((),((g,rip,fl,nx,c,()),m,l,()))=some (v,((g',rip,fl,nx,c',()),m',l',())))∧(MS.mk g' m' c' l').ok (k+1)∧I64 v:=
 ⟨_,_,_,_,_,rfl,fun rip fl nx=>pop_m hs hk rip fl nx,hs.po.1,hs.po.2.1⟩
theorem go_ex {g:List Int}{m:List Page}{c:Int}{l:List Acc}{k:Nat}(hs:(MS.mk g m c l).ok k)(hk:k≤1000){x:Ins}(hv:OpV x.src 8)(nx:Int):
  ∃v c' l',(MS.mk g m c l).go nx x=(v,⟨g,m,c',l'⟩)∧(∀rip fl,aY ((x,()),((g,rip,fl,nx,c,()),m,l,()))=some (v,((g,rip,fl,nx,c',()),m,l',())))∧(MS.mk g m c' l').ok (k+1)∧I64 v:=by
 obtain⟨h1,h2⟩:=hs.go nx hv
 have h5:=fun rip fl=>goal_m hs hk hv rip fl nx
 have h3:((MS.mk g m c l).go nx x).2.g=g∧((MS.mk g m c l).go nx x).2.m=m:=by
  unfold MS.go
  split
  ·exact⟨rfl,rfl⟩
  ·exact(hs.rd nx (n:=8) rfl hv).2.2
 obtain⟨v,c',l',e⟩:=pr_ex h3.1 h3.2
 rw[e]at h1 h2
 refine⟨v,c',l',e,fun rip fl=>?_,h1,h2⟩
 have:=h5 rip fl
 rw[e]at this
 exact this
theorem ld_ex {g:List Int}{m:List Page}{c:Int}{l:List Acc}{k:Nat}(hs:(MS.mk g m c l).ok k)(hk:k≤1000){a:Int}(ha:I64 a){n:Nat}(hn:cM (n:Int)=true):
  ∃v c' l',(MS.mk g m c l).ld a n=(v,⟨g,m,c',l'⟩)∧(∀rip fl nx,aC ((a,((n:Int),())),((g,rip,fl,nx,c,()),m,l,()))=some (v,((g,rip,fl,nx,c',()),m,l',())))∧(MS.mk g m c' l').ok (k+1)∧I64 v:=by
 obtain⟨h1,h2,h3,h4⟩:=hs.ld a n
 have h5:=fun rip fl nx=>wS hs hk ha hn rip fl nx
 obtain⟨v,c',l',e⟩:=pr_ex h3 h4
 rw[e]at h1 h2
 refine⟨v,c',l',e,fun rip fl nx=>?_,h1,h2⟩
 have:=h5 rip fl nx
 rw[e]at this
 exact this
theorem st_ex {g:List Int}{m:List Page}{c:Int}{l:List Acc}{k:Nat}(hs:(MS.mk g m c l).ok k)(hk:k≤1000){a:Int}(ha:I64 a){n:Nat}(hn:cM (n:Int)=true)(v:Int):
  ∃m' c' l',(MS.mk g m c l).st a n v=⟨g,m',c',l'⟩∧(∀rip fl nx,au ((a,((n:Int),(v,()))),((g,rip,fl,nx,c,()),m,l,()))=some ((),((g,rip,fl,nx,c',()),m',l',())))∧(MS.mk g m' c' l').ok (k+1):=by
 obtain⟨h1,h2⟩:=hs.st ha hn v
 have h5:=fun rip fl nx=>sT hs hk (v:=v) ha hn rip fl nx
 obtain⟨m',c',l',e⟩:∃m' c' l',(MS.mk g m c l).st a n v=⟨g,m',c',l'⟩:=by
  generalize (MS.mk g m c l).st a n v=r at h2
  obtain⟨g',m',c',l'⟩:=r
  cases h2
  exact⟨m',c',l',rfl⟩
 rw[e]at h1
 refine⟨m',c',l',e,fun rip fl nx=>?_,h1⟩
 have:=h5 rip fl nx
 rw[e]at this
 exact this
def ya (n z:Nat):Nat:=if 20≤n∧n≤24 then 8 else z
def oW (n z:Nat)(a b fl:Int):Int×Int:=
 if n≤8∨n=10 then zV n z a b fl else if n=11∨n=12∨n=18∨n=19 then Ai n z a fl
 else if 20≤n then nP n z a (dc b 1) fl else((vd n z a b fl).1,(vd n z a b fl).2.2)
def MS.rd0 (s:MS)(nx:Int)(o:Opd)(n:Nat):Int×MS:=if o.kind≠0 then s.rd nx o n else(0,s)
def MS.reck (s:MS)(nx fl:Int)(x:Ins)(n z:Nat):MS×Int:=
 let a:=s.rd nx x.dst z
 let b:=a.2.rd0 nx x.src (ya n z)
 let r:=oW n z a.1 b.1 fl
 (if n≠8∧n≠10 then b.2.wr nx x.dst z r.1 else b.2,r.2)
theorem zG {x:Ins}{n z:Nat}(hx:ExV x n)(hn:n≤24)(hz:x.size=z)(hz':cM (z:Int)=true):bD ((x,()),())=some ((ya n z:Int),())∧sSz x n=(ya n z:Int):=by
 have hf:=hx.fr.2 (by omega)
 have h0:=(fi hz').1
 unfold bD aW sSz ya
 dsimp only
 rw[hf,bU rfl,bP,aL,jG,af,af,hx.op,hz]
 dsimp only
 by_cases h:20≤n∧n≤24
 ·have hb:inB (n:Int) 20 24=true:=by unfold inB;simp;omega
  rw[hb,bn,af,bn,if_pos h,if_pos h]
  exact⟨rfl,rfl⟩
 ·have hb:inB (n:Int) 20 24=false:=by unfold inB;simp;omega
  rw[hb,aL,af,aB (aP (by omega)),if_neg h,if_neg h,if_neg (by decide)]
  exact⟨rfl,rfl⟩
theorem yV (n:Nat):fH (((n:Int),()),())=some (decide (1≤n∧n≤8∨n=10),()):=by
 unfold fH
 dsimp only
 rw[jG,af]
 dsimp only
 have hb:inB (n:Int) 1 8=decide (1≤n∧n≤8):=by unfold inB;rw[Bool.eq_iff_iff];simp;omega
 have he:eqI (n:Int) 10=decide (n=10):=by unfold eqI;rw[Bool.eq_iff_iff];simp;omega
 rw[hb,he,fP,af]
 congr 2
 rw[Bool.eq_iff_iff];simp
theorem yY (n:Nat):fJ (((n:Int),()),())=some (decide (n=11∨n=12∨n=18∨n=19),()):=by
 unfold fJ
 dsimp only
 have he:∀j:Nat,eqI (n:Int) (j:Int)=decide (n=j):=fun j=>by unfold eqI;rw[Bool.eq_iff_iff];simp;omega
 have e1:=he 11
 have e2:=he 12
 have e3:=he 18
 have e4:=he 19
 rw[show((11:Nat):Int)=11 from rfl]at e1
 rw[show((12:Nat):Int)=12 from rfl]at e2
 rw[show((18:Nat):Int)=18 from rfl]at e3
 rw[show((19:Nat):Int)=19 from rfl]at e4
 rw[e1,e2,e3,e4,fP,af,fP,af,fP,af]
 congr 2
 rw[Bool.eq_iff_iff];simp[or_assoc]
theorem sr (n:Nat):aW (((n:Int),()),())=some (decide (20≤n∧n≤24),()):=by
 unfold aW
 dsimp only
 rw[jG,af]
 congr 2
 unfold inB;rw[Bool.eq_iff_iff];simp;omega
theorem rckV_ok {n z:Nat}{a b fl:Int}(hz:cM (z:Int)=true)(ha:I64 a)(hI:I64 fl)(hf:bh fl=true):I64 (oW n z a b fl).1∧bh (oW n z a b fl).2=true∧I64 (oW n z a b fl).2:=by
 unfold oW
 split
 ·exact aluM_ok hz ha
 split
 ·exact oneM_ok hz hI hf
 split
 ·exact xx hz ha hI hf
 ·have:=xb (op:=n) (n:=z) (a:=a) (b:=b) hI hf
  exact⟨this.1,this.2.2.1,this.2.2.2⟩
theorem reck_m {g:List Int}{m:List Page}{c:Int}{l:List Acc}{k:Nat}(hs:(MS.mk g m c l).ok k)(hk:k+3≤1000){x:Ins}{n z:Nat}(hx:ExV x n)(hn:n≤8∨10≤n∧n≤12∨17≤n∧n≤24)(hz:x.size=z)
  {fl:Int} (hI:I64 fl) (hf:bh fl=true) (nx:Int):
  ∃g' m' c' l' fl',(MS.mk g m c l).reck nx fl x n z=(⟨g',m',c',l'⟩,fl')∧(∀rip,bK ((x,()),((g,rip,fl,nx,c,()),m,l,()))=some ((),((g',rip,fl',nx,c',()),m',l',())))∧(MS.mk g' m' c' l').ok (k+3)∧I64 fl'∧bh fl'=true:=by
 have hz':cM (z:Int)=true:=by rw[←hz];exact hx.szs.1 (by omega)
 have hkd:=hx.kd.1 (by omega)
 have hdv:=hx.dv
 have hsv:=hx.sv
 obtain⟨hss,hss2⟩:=zG hx (by omega) hz hz'
 rw[hz]at hdv
 rw[hss2]at hsv
 have hzs:cM (ya n z:Int)=true:=by unfold ya;split;rfl;exact hz'
 obtain⟨v1,c1,l1,e1,r1,ok1,I1⟩:=nF hs (by omega) hz' hdv nx
 have hb:∃v2 c2 l2,(MS.mk g m c1 l1).rd0 nx x.src (ya n z)=(v2,⟨g,m,c2,l2⟩)∧(MS.mk g m c2 l2).ok (k+2)∧I64 v2∧(x.src.kind=0→v2=0∧c2=c1∧l2=l1)∧
   (x.src.kind≠0→∀rip fl,an ((ck x.src (),((ya n z:Int),())),((g,rip,fl,nx,c1,()),m,l1,()))=some (v2,((g,rip,fl,nx,c2,()),m,l2,()))):=by
  unfold MS.rd0
  by_cases h0:x.src.kind=0
  ·rw[if_neg (by simpa using h0)]
   exact⟨0,c1,l1,rfl,ok1.mono (by omega),by unfold I64;omega,fun _=>⟨rfl,rfl,rfl⟩,fun h=>absurd h0 h⟩
  ·rw[if_pos h0]
   obtain⟨v2,c2,l2,e2,r2,ok2,I2⟩:=nF ok1 (by omega) hzs hsv nx
   exact⟨v2,c2,l2,e2,ok2,I2,fun h=>absurd h h0,fun _=>r2⟩
 obtain⟨v2,c2,l2,e2,ok2,I2,h20,h21⟩:=hb
 obtain⟨rI,rf,rfI⟩:=rckV_ok (n:=n) (b:=v2) hz' I1 hI hf
 have hw:∃g' m' c' l',(if n≠8∧n≠10 then(MS.mk g m c2 l2).wr nx x.dst z (oW n z v1 v2 fl).1 else(MS.mk g m c2 l2))=⟨g',m',c',l'⟩∧(MS.mk g' m' c' l').ok (k+3)∧
   (n≠8∧n≠10→∀rip fl',aj ((ck x.dst (),((z:Int),((oW n z v1 v2 fl).1,()))),((g,rip,fl',nx,c2,()),m,l2,()))=some ((),((g',rip,fl',nx,c',()),m',l',())))∧
   (¬(n≠8∧n≠10)→g'=g∧m'=m∧c'=c2∧l'=l2):=by
  by_cases h:n≠8∧n≠10
  ·rw[if_pos h]
   obtain⟨g',m',c',l',e3,r3,ok3⟩:=om ok2 (by omega) hz' hdv hkd nx rI
   exact⟨g',m',c',l',e3,ok3,fun _=>r3,fun g=>absurd h g⟩
  ·rw[if_neg h]
   exact⟨g,m,c2,l2,rfl,ok2.mono (by omega),fun g=>absurd g h,fun _=>⟨rfl,rfl,rfl,rfl⟩⟩
 obtain⟨g',m',c',l',e3,ok3,w1,w2⟩:=hw
 refine⟨g',m',c',l',(oW n z v1 v2 fl).2,?_,fun rip=>?_,ok3,rfI,rf⟩
 ·unfold MS.reck
  dsimp only
  rw[e1]
  dsimp only
  rw[e2]
  dsimp only
  rw[e3]
 unfold bK
 dsimp only
 rw[hz,r1,af]
 dsimp only
 refine(Ret.bnd (Q:=fun y=>y=Sum.inl ((v1,(v2,())),((g,rip,fl,nx,c2,()),(m,(l2,((fB x ()),())))))) ?_ ?_).eq
 ·by_cases h0:x.src.kind=0
  ·obtain⟨rfl,rfl,rfl⟩:=h20 h0
   rw[bU h0,bP,aL]
   exact Ret.some rfl
  ·rw[aP h0,dO,bn,hss,af,h21 h0,af]
   exact Ret.some rfl
 rintro _ rfl
 rw[aE]
 dsimp only[fB,ck]
 rw[hx.op,hz,yV,af]
 dsimp only
 refine Ret.bnd (Q:=fun y=>y=Sum.inl (((oW n z v1 v2 fl).1,()),((g,rip,(oW n z v1 v2 fl).2,nx,c2,()),(m,(l2,((fB x ()),())))))) ?_ ?_
 ·have ex:(((n:Int),(z:Int),x.cond,x.frm,x.dst.kind,x.dst.reg,x.dst.base,x.dst.index,x.dst.scale,x.dst.disp,x.dst.imm,x.src.kind,x.src.reg,x.src.base,x.src.index,x.src.scale,x.src.disp,x.src.imm,x.len,()):Int×Int×Int×Int×Int×Int×Int×Int×Int×Int×Int×Int×Int×Int×Int×Int×Int×Int×Int×Unit)=fB x ():=by
   rw[←hx.op,←hz];rfl
  unfold oW
  by_cases ha:n≤8∨n=10
  ·have h1:=hx.n1
   rw[decide_eq_true (by omega),bn,if_pos ha,alu_eq hz' I1 I2,af]
   dsimp only
   exact Ret.some (by rw[ex])
  ·rw[decide_eq_false (by omega),aL,if_neg ha,yY,af]
   dsimp only
   refine Ret.bnd (Q:=fun y=>y=Sum.inl (((oW n z v1 v2 fl).1,()),((g,rip,(oW n z v1 v2 fl).2,nx,c2,()),(m,(l2,((fB x ()),())))))) ?_ ?_
   ·unfold oW
    rw[if_neg ha]
    by_cases h1:n=11∨n=12∨n=18∨n=19
    ·rw[decide_eq_true h1,bn,if_pos h1,one_eq hz' I1,af]
     dsimp only
     exact Ret.some (by rw[ex])
    ·rw[decide_eq_false h1,aL,if_neg h1,sr,af]
     dsimp only
     refine Ret.bnd (Q:=fun y=>y=Sum.inl (((oW n z v1 v2 fl).1,()),((g,rip,(oW n z v1 v2 fl).2,nx,c2,()),(m,(l2,((fB x ()),())))))) ?_ ?_
     ·unfold oW
      rw[if_neg ha,if_neg h1]
      by_cases h2:20≤n
      ·rw[decide_eq_true (by omega),bn,if_pos h2,show(1:Int)=((1:Nat):Int)from rfl,bg _ 1 rfl,af,zD (by omega) hz' I1 hI hf,af]
       dsimp only
       exact Ret.some (by rw[ex])
      ·rw[decide_eq_false (by omega),aL,if_neg h2,nn hz' I1 I2 hI hf,af]
       dsimp only
       exact Ret.some (by rw[ex])
     ·rintro _ rfl
      rw[aE]
      exact Ret.some (by unfold oW;rw[if_neg ha,if_neg h1])
   ·rintro _ rfl
    rw[aE]
    exact Ret.some (by unfold oW;rw[if_neg ha])
 rintro _ rfl
 rw[aE]
 dsimp only[fB,ck,cp7]
 rw[hx.op,hz]
 have hbr:br (aX (eqI (n:Int) 8)) (some (aX (eqI (n:Int) 10))) (some false)=some (decide (n≠8∧n≠10)):=by
  by_cases a8:n=8
  ·rw[bU (by omega),bP,aL,decide_eq_false (by omega)]
  ·rw[aP (by omega),dO,bn]
   by_cases a10:n=10
   ·rw[bU (by omega),bP,decide_eq_false (by omega)]
   ·rw[aP (by omega),dO,decide_eq_true (by omega)]
 rw[hbr,af]
 by_cases h:n≠8∧n≠10
 ·rw[decide_eq_true h,bn]
  have hw:=w1 h rip (oW n z v1 v2 fl).2
  unfold ck at hw
  rw[hw,af]
  exact Ret.some rfl
 ·obtain⟨rfl,rfl,rfl,rfl⟩:=w2 h
  rw[decide_eq_false h,aL]
  exact Ret.some rfl
end
set_option linter.unusedSectionVars false
noncomputable section
def MS.flow (s:MS)(rip fl nx:Int)(x:Ins)(n:Nat):MS×Int:=
 if n=29 then((s.rd nx x.src 8).2.pu (s.rd nx x.src 8).1,rip)
 else if n=30 then(s.po.2.wr nx x.dst 8 s.po.1,rip)
 else if n=31 then((s.go nx x).2.pu nx,(s.go nx x).1)
 else if n=34 then(s.po.2,s.po.1)
 else if n=32 then((s.go nx x).2,(s.go nx x).1)
 else if n=33 then(if iZ x.cond fl=true then((s.go nx x).2,(s.go nx x).1)else(s,rip))
 else if n=41 then({s.st (rg s.g 7) 1 (rg s.g 0)with g:=setA s.g 7 (aF .i64 (rg s.g 7) 1)},rip)
 else if n=42 then({(s.ld (rg s.g 6) 1).2.st (rg s.g 7) 1 (s.ld (rg s.g 6) 1).1 with g:=setA (setA s.g 6 (aF .i64 (rg s.g 6) 1)) 7 (aF .i64 (rg (setA s.g 6 (aF .i64 (rg s.g 6) 1)) 7) 1)},rip)
 else if n=38 then({s with code:=17},rip)
 else if n=43∨n=44 then({s with code:=18},rip)
 else(s,rip)
section
variable {g:List Int}{m:List Page}{c:Int}{l:List Acc}{k:Nat}(hs:(MS.mk g m c l).ok k)(hk:k+3≤1000){x:Ins}
include hs hk
theorem flow_29 (hx:ExV x 29)(rip fl nx:Int):∃g' m' c' l' rip',(MS.mk g m c l).flow rip fl nx x 29=(⟨g',m',c',l'⟩,rip')∧ah ((x,()),((g,rip,fl,nx,c,()),m,l,()))=some ((),((g',rip',fl,nx,c',()),m',l',()))∧(MS.mk g' m' c' l').ok (k+3):=by
 unfold MS.flow ah
 dsimp only
 have hop:=hx.op
 have hsv:=hx.sv
 rw[show sSz x 29=x.size from by unfold sSz;rw[if_neg (by decide),hx.fr.2 (by decide),if_neg (by decide)],hx.szs.2.2.1 (by decide)]at hsv
 obtain⟨v1,c1,l1,e1,r1,ok1,I1⟩:=nF hs (by omega) (n:=8) rfl hsv nx
 obtain⟨g',m',c',l',e2,r2,ok2⟩:=pu_ex ok1 (by omega) v1
 have r1':an ((ck x.src (),(8,())),((g,rip,fl,nx,c,()),m,l,()))=_:=r1 rip fl
 rw[if_pos rfl,e1,hop,bU (by omega),bn,r1',af,r2,af]
 exact⟨g',m',c',l',rip,by dsimp only;rw[e2],rfl,ok2.mono (by omega)⟩
theorem flow_30 (hx:ExV x 30)(rip fl nx:Int):∃g' m' c' l' rip',(MS.mk g m c l).flow rip fl nx x 30=(⟨g',m',c',l'⟩,rip')∧ah ((x,()),((g,rip,fl,nx,c,()),m,l,()))=some ((),((g',rip',fl,nx,c',()),m',l',()))∧(MS.mk g' m' c' l').ok (k+3):=by
 unfold MS.flow ah
 dsimp only
 have hop:=hx.op
 have hdv:=hx.dv
 rw[hx.szs.2.2.1 (by decide)]at hdv
 obtain⟨v1,g1,m1,c1,l1,e1,r1,ok1,I1⟩:=po_ex hs (by omega)
 obtain⟨g',m',c',l',e2,r2,ok2⟩:=om ok1 (by omega) (n:=8) rfl hdv (hx.kd.1 (by decide)) nx I1
 have r2':aj ((ck x.dst (),(8,(v1,()))),((g1,rip,fl,nx,c1,()),m1,l1,()))=_:=r2 rip fl
 rw[if_neg (by decide),if_pos rfl,e1,hop,aP (by omega),aL,bU (by omega),bn,r1,af]
 dsimp only
 rw[r2',af]
 exact⟨g',m',c',l',rip,by rw[e2],rfl,ok2.mono (by omega)⟩
theorem flow_31 (hx:ExV x 31)(rip fl nx:Int):∃g' m' c' l' rip',(MS.mk g m c l).flow rip fl nx x 31=(⟨g',m',c',l'⟩,rip')∧ah ((x,()),((g,rip,fl,nx,c,()),m,l,()))=some ((),((g',rip',fl,nx,c',()),m',l',()))∧(MS.mk g' m' c' l').ok (k+3):=by
 unfold MS.flow ah
 dsimp only
 have hop:=hx.op
 have hsv:=hx.sv
 rw[show sSz x 31=x.size from by unfold sSz;rw[if_neg (by decide),hx.fr.2 (by decide),if_neg (by decide)],hx.szs.2.2.1 (by decide)]at hsv
 obtain⟨v1,c1,l1,e1,r1,ok1,I1⟩:=go_ex hs (by omega) hsv nx
 obtain⟨g',m',c',l',e2,r2,ok2⟩:=pu_ex ok1 (by omega) nx
 rw[if_neg (by decide),if_neg (by decide),if_pos rfl,e1,hop,aP (by omega),aL,aP (by omega),aL,bU (by omega),bn,r1,af]
 dsimp only
 rw[r2,af]
 exact⟨g',m',c',l',v1,by rw[e2],rfl,ok2.mono (by omega)⟩
theorem flow_34 (hx:ExV x 34)(rip fl nx:Int):∃g' m' c' l' rip',(MS.mk g m c l).flow rip fl nx x 34=(⟨g',m',c',l'⟩,rip')∧ah ((x,()),((g,rip,fl,nx,c,()),m,l,()))=some ((),((g',rip',fl,nx,c',()),m',l',()))∧(MS.mk g' m' c' l').ok (k+3):=by
 unfold MS.flow ah
 dsimp only
 have hop:=hx.op
 obtain⟨v1,g1,m1,c1,l1,e1,r1,ok1,I1⟩:=po_ex hs (by omega)
 rw[if_neg (by decide),if_neg (by decide),if_neg (by decide),if_pos rfl,e1,hop,aP (by omega),aL,aP (by omega),aL,aP (by omega),aL,bU (by omega),bn,r1,af]
 exact⟨g1,m1,c1,l1,v1,rfl,rfl,ok1.mono (by omega)⟩
theorem flow_32 (hx:ExV x 32)(rip fl nx:Int):∃g' m' c' l' rip',(MS.mk g m c l).flow rip fl nx x 32=(⟨g',m',c',l'⟩,rip')∧ah ((x,()),((g,rip,fl,nx,c,()),m,l,()))=some ((),((g',rip',fl,nx,c',()),m',l',()))∧(MS.mk g' m' c' l').ok (k+3):=by
 unfold MS.flow ah
 dsimp only
 have hop:=hx.op
 have hsv:=hx.sv
 rw[show sSz x 32=x.size from by unfold sSz;rw[if_neg (by decide),hx.fr.2 (by decide),if_neg (by decide)],hx.szs.2.2.1 (by decide)]at hsv
 obtain⟨v1,c1,l1,e1,r1,ok1,I1⟩:=go_ex hs (by omega) hsv nx
 rw[if_neg (by decide),if_neg (by decide),if_neg (by decide),if_neg (by decide),if_pos rfl,e1,hop,aP (by omega),aL,aP (by omega),aL,aP (by omega),aL,aP (by omega),aL,bU (by omega),bn,r1,af]
 exact⟨g,m,c1,l1,v1,rfl,rfl,ok1.mono (by omega)⟩
theorem flow_33 (hx:ExV x 33)(rip fl nx:Int):∃g' m' c' l' rip',(MS.mk g m c l).flow rip fl nx x 33=(⟨g',m',c',l'⟩,rip')∧ah ((x,()),((g,rip,fl,nx,c,()),m,l,()))=some ((),((g',rip',fl,nx,c',()),m',l',()))∧(MS.mk g' m' c' l').ok (k+3):=by
 unfold MS.flow ah
 dsimp only
 have hop:=hx.op
 have hk3:=hx.kd.2.2.2.2.2.2.2.1 rfl
 have hgo:∀s:MS,s.go nx x=(aF .i64 nx x.src.imm,s):=fun s=>if_pos hk3
 have hg2:aY ((x,()),((g,rip,fl,nx,c,()),m,l,()))=some (aF .i64 nx x.src.imm,((g,rip,fl,nx,c,()),m,l,())):=by
  unfold aY
  dsimp only
  rw[bU hk3,bn]
 rw[if_neg (by decide),if_neg (by decide),if_neg (by decide),if_neg (by decide),if_neg (by decide),if_pos rfl,hgo,hop,aP (by omega),aL,aP (by omega),aL,aP (by omega),aL,aP (by omega),aL,aP (by omega),aL,bU (by omega),bn,pD hx.c0 hx.c1,af]
 dsimp only
 by_cases hh:iZ x.cond fl=true
 ·rw[hh,bn,hg2,af,if_pos rfl]
  exact⟨g,m,c,l,_,rfl,rfl,hs.mono (by omega)⟩
 ·rw[Bool.eq_false_iff.2 hh,aL,if_neg (by decide)]
  exact⟨g,m,c,l,_,rfl,rfl,hs.mono (by omega)⟩
theorem flow_41 (hx:ExV x 41)(rip fl nx:Int):∃g' m' c' l' rip',(MS.mk g m c l).flow rip fl nx x 41=(⟨g',m',c',l'⟩,rip')∧ah ((x,()),((g,rip,fl,nx,c,()),m,l,()))=some ((),((g',rip',fl,nx,c',()),m',l',()))∧(MS.mk g' m' c' l').ok (k+3):=by
 unfold MS.flow ah
 dsimp only
 have hop:=hx.op
 obtain⟨m',c',l',e1,r1,ok1⟩:=st_ex hs (by omega) (hs.g 7) (n:=1) rfl (rg g 0)
 have r1':au ((aQ g 7 (aD .i),(1,(aQ g 0 (aD .i),()))),((g,rip,fl,nx,c,()),m,l,()))=_:=r1 rip fl nx
 rw[if_neg (by decide),if_neg (by decide),if_neg (by decide),if_neg (by decide),if_neg (by decide),if_neg (by decide),if_pos rfl,e1,hop,aP (by omega),aL,aP (by omega),aL,aP (by omega),aL,aP (by omega),aL,aP (by omega),aL,aP (by omega),aL,bU (by omega),bn,r1',af]
 exact⟨_,m',c',l',rip,rfl,rfl,(ok1.setA (ax _)).mono (by omega)⟩
theorem flow_42 (hx:ExV x 42)(rip fl nx:Int):∃g' m' c' l' rip',(MS.mk g m c l).flow rip fl nx x 42=(⟨g',m',c',l'⟩,rip')∧ah ((x,()),((g,rip,fl,nx,c,()),m,l,()))=some ((),((g',rip',fl,nx,c',()),m',l',()))∧(MS.mk g' m' c' l').ok (k+3):=by
 unfold MS.flow ah
 dsimp only
 have hop:=hx.op
 obtain⟨v1,c1,l1,e1,r1,ok1,I1⟩:=ld_ex hs (by omega) (hs.g 6) (n:=1) rfl
 obtain⟨m',c',l',e2,r2,ok2⟩:=st_ex ok1 (by omega) (hs.g 7) (n:=1) rfl v1
 have r1':aC ((aQ g 6 (aD .i),(1,())),((g,rip,fl,nx,c,()),m,l,()))=_:=r1 rip fl nx
 have r2':au ((aQ g 7 (aD .i),(1,(v1,()))),((g,rip,fl,nx,c1,()),m,l1,()))=_:=r2 rip fl nx
 rw[if_neg (by decide),if_neg (by decide),if_neg (by decide),if_neg (by decide),if_neg (by decide),if_neg (by decide),if_neg (by decide),if_pos rfl,e1,hop,aP (by omega),aL,aP (by omega),aL,aP (by omega),aL,aP (by omega),aL,aP (by omega),aL,aP (by omega),aL,aP (by omega),aL,bU (by omega),bn,r1',af]
 dsimp only
 rw[r2',af,e2]
 exact⟨_,m',c',l',rip,rfl,rfl,((ok2.setA (ax _)).setA (ax _)).mono (by omega)⟩
theorem flow_38 (hx:ExV x 38)(rip fl nx:Int):∃g' m' c' l' rip',(MS.mk g m c l).flow rip fl nx x 38=(⟨g',m',c',l'⟩,rip')∧ah ((x,()),((g,rip,fl,nx,c,()),m,l,()))=some ((),((g',rip',fl,nx,c',()),m',l',()))∧(MS.mk g' m' c' l').ok (k+3):=by
 unfold MS.flow ah
 dsimp only
 have hop:=hx.op
 rw[if_neg (by decide),if_neg (by decide),if_neg (by decide),if_neg (by decide),if_neg (by decide),if_neg (by decide),if_neg (by decide),if_neg (by decide),if_pos rfl,hop,aP (by omega),aL,aP (by omega),aL,aP (by omega),aL,aP (by omega),aL,aP (by omega),aL,aP (by omega),aL,aP (by omega),aL,aP (by omega),aL,bU (by omega),bn]
 exact⟨g,m,17,l,rip,rfl,rfl,⟨hs.m,Nat.le_trans hs.l (by omega),hs.g⟩⟩
theorem flow_43 (hx:ExV x 43)(rip fl nx:Int):∃g' m' c' l' rip',(MS.mk g m c l).flow rip fl nx x 43=(⟨g',m',c',l'⟩,rip')∧ah ((x,()),((g,rip,fl,nx,c,()),m,l,()))=some ((),((g',rip',fl,nx,c',()),m',l',()))∧(MS.mk g' m' c' l').ok (k+3):=by
 unfold MS.flow ah
 dsimp only
 have hop:=hx.op
 rw[if_neg (by decide),if_neg (by decide),if_neg (by decide),if_neg (by decide),if_neg (by decide),if_neg (by decide),if_neg (by decide),if_neg (by decide),if_neg (by decide),if_pos (by decide),hop,aP (by omega),aL,aP (by omega),aL,aP (by omega),aL,aP (by omega),aL,aP (by omega),aL,aP (by omega),aL,aP (by omega),aL,aP (by omega),aL,aP (by omega),aL]
 rw[show eqI ((43:Nat):Int) 43=true from rfl,bn,af,aE]
 exact⟨g,m,18,l,rip,rfl,rfl,⟨hs.m,Nat.le_trans hs.l (by omega),hs.g⟩⟩
theorem flow_44 (hx:ExV x 44)(rip fl nx:Int):∃g' m' c' l' rip',(MS.mk g m c l).flow rip fl nx x 44=(⟨g',m',c',l'⟩,rip')∧ah ((x,()),((g,rip,fl,nx,c,()),m,l,()))=some ((),((g',rip',fl,nx,c',()),m',l',()))∧(MS.mk g' m' c' l').ok (k+3):=by
 unfold MS.flow ah
 dsimp only
 have hop:=hx.op
 rw[if_neg (by decide),if_neg (by decide),if_neg (by decide),if_neg (by decide),if_neg (by decide),if_neg (by decide),if_neg (by decide),if_neg (by decide),if_neg (by decide),if_pos (by decide),hop,aP (by omega),aL,aP (by omega),aL,aP (by omega),aL,aP (by omega),aL,aP (by omega),aL,aP (by omega),aL,aP (by omega),aL,aP (by omega),aL,aP (by omega),aL]
 rw[show eqI ((44:Nat):Int) 43=false from rfl,aL,af,aE,show eqI ((44:Nat):Int) 44=true from rfl]
 exact⟨g,m,18,l,rip,rfl,rfl,⟨hs.m,Nat.le_trans hs.l (by omega),hs.g⟩⟩
theorem flow_37 (hx:ExV x 37)(rip fl nx:Int):∃g' m' c' l' rip',(MS.mk g m c l).flow rip fl nx x 37=(⟨g',m',c',l'⟩,rip')∧ah ((x,()),((g,rip,fl,nx,c,()),m,l,()))=some ((),((g',rip',fl,nx,c',()),m',l',()))∧(MS.mk g' m' c' l').ok (k+3):=by
 unfold MS.flow ah
 dsimp only
 have hop:=hx.op
 rw[if_neg (by decide),if_neg (by decide),if_neg (by decide),if_neg (by decide),if_neg (by decide),if_neg (by decide),if_neg (by decide),if_neg (by decide),if_neg (by decide),if_neg (by decide),hop,aP (by omega),aL,aP (by omega),aL,aP (by omega),aL,aP (by omega),aL,aP (by omega),aL,aP (by omega),aL,aP (by omega),aL,aP (by omega),aL,aP (by omega),aL]
 rw[show eqI ((37:Nat):Int) 43=false from rfl,aL,af,aE,show eqI ((37:Nat):Int) 44=false from rfl]
 exact⟨g,m,c,l,rip,rfl,rfl,hs.mono (by omega)⟩
end
end
set_option linter.unusedSectionVars false
set_option linter.unusedVariables false
noncomputable section
theorem xw {g:List Int}{r v:Int}{n:Nat}(hn:cM (n:Int)=true)(h15:r≤15){α:Type}(Z:List Int→Option α):
  (br (leI 4 (n:Int)) (bnd (aa ((v,((n:Int),())),())) (fun x32=>Z (cF (dQ 16 (aD .i) g) r x32.1))) (bnd (aa ((v,((n:Int),())),())) (fun x33=>(bnd (aa (((aQ g r (aD .i)),((n:Int),())),())) (fun x34=>Z (cF (dQ 16 (aD .i) g) r (aF .i64 (aQ g r (aD .i)) (aT .i64 x33.1 x34.1))))))))=Z (rD g r n v):=by
 unfold rD Go.Den.G.setA
 rw[if_neg (by omega),bg _ n hn,bg _ n hn,af,af,af]
 by_cases h4:4≤n
 ·rw[ag (fT (by omega)),if_pos h4]
 ·rw[aB (jP (by omega)),if_neg h4]
theorem m8:ap ((0,()),())=some (false,()):=jo 0
theorem isHigh2:ap ((2,()),())=some (false,()):=jo 2
theorem oX {g:List Int}{r:Int}{n:Nat}(h:¬16≤r):dc (aQ g r (aD .i)) n=lB g r n:=by
 unfold lB
 rw[if_neg h]
def MS.move (s:MS)(fl nx:Int)(x:Ins)(n z:Nat):MS:=
 if n=9 then(s.rd nx x.src z).2.wr nx x.dst z (s.rd nx x.src z).1
 else if n=28 then
  let a:=s.rd nx x.dst z
  let b:=a.2.rd nx x.src z
  (b.2.wr nx x.dst z b.1).wr nx x.src z a.1
 else if n=25 then s.wr nx x.dst z (gd s.g nx x.src)
 else if n=26 then(s.rd nx x.src x.frm.toNat).2.wr nx x.dst z (s.rd nx x.src x.frm.toNat).1
 else if n=27 then(s.rd nx x.src x.frm.toNat).2.wr nx x.dst z (sx (8*x.frm.toNat-1) (s.rd nx x.src x.frm.toNat).1)
 else if n=35 then s.wr nx x.dst 1 (if iZ x.cond fl=true then 1 else 0)
 else if n=36 then
  let a:=s.rd nx x.src z
  let b:=if iZ x.cond fl=true then a else a.2.rd nx x.dst z
  b.2.wr nx x.dst z b.1
 else if n=39 then {s with g:=rD s.g 0 z (sx (8*(z/2)-1) (lB s.g 0 (z/2)))}
 else if n=40 then {s with g:=rD s.g 2 z (dh .i64 (sx (8*z-1) (lB s.g 0 z)) 63)}
 else s
section
variable {g:List Int}{m:List Page}{c:Int}{l:List Acc}{k:Nat}(hs:(MS.mk g m c l).ok k)(hk:k+4≤1000){x:Ins}{z:Nat}
include hs hk
theorem move_9 (hx:ExV x 9)(hz:x.size=z)(rip fl nx:Int):∃g' m' c' l',(MS.mk g m c l).move fl nx x 9 z=⟨g',m',c',l'⟩∧aq ((x,()),((g,rip,fl,nx,c,()),m,l,()))=some ((),((g',rip,fl,nx,c',()),m',l',()))∧(MS.mk g' m' c' l').ok (k+4):=by
 unfold MS.move aq
 dsimp only
 have hop:=hx.op
 have hz':cM (z:Int)=true:=by rw[←hz];exact hx.szs.1 (by decide)
 have hdv:=hx.dv
 rw[hz]at hdv
 have hsv:=hx.sv
 rw[show sSz x 9=x.size from by unfold sSz;rw[if_neg (by decide),hx.fr.2 (by decide),if_neg (by decide)],hz]at hsv
 obtain⟨v1,c1,l1,e1,r1,ok1,I1⟩:=nF hs (by omega) hz' hsv nx
 obtain⟨g',m',c',l',e2,r2,ok2⟩:=om ok1 (by omega) hz' hdv (hx.kd.1 (by decide)) nx I1
 rw[if_pos rfl,e1,hop,hz,bU (by omega),bn,r1,af]
 dsimp only
 rw[r2,af]
 exact⟨g',m',c',l',e2,rfl,ok2.mono (by omega)⟩
theorem move_28 (hx:ExV x 28)(hz:x.size=z)(rip fl nx:Int):∃g' m' c' l',(MS.mk g m c l).move fl nx x 28 z=⟨g',m',c',l'⟩∧aq ((x,()),((g,rip,fl,nx,c,()),m,l,()))=some ((),((g',rip,fl,nx,c',()),m',l',()))∧(MS.mk g' m' c' l').ok (k+4):=by
 unfold MS.move aq
 dsimp only
 have hop:=hx.op
 have hz':cM (z:Int)=true:=by rw[←hz];exact hx.szs.1 (by decide)
 have hdv:=hx.dv
 rw[hz]at hdv
 have hsv:=hx.sv
 rw[show sSz x 28=x.size from by unfold sSz;rw[if_neg (by decide),hx.fr.2 (by decide),if_neg (by decide)],hz]at hsv
 have hsk:x.src.kind=1∨x.src.kind=2:= .inl (hx.kd.2.1 rfl)
 obtain⟨v1,c1,l1,e1,r1,ok1,I1⟩:=nF hs (by omega) hz' hdv nx
 obtain⟨v2,c2,l2,e2,r2,ok2,I2⟩:=nF ok1 (by omega) hz' hsv nx
 obtain⟨g3,m3,c3,l3,e3,r3,ok3⟩:=om ok2 (by omega) hz' hdv (hx.kd.1 (by decide)) nx I2
 obtain⟨g',m',c',l',e4,r4,ok4⟩:=om ok3 (by omega) hz' hsv hsk nx I1
 rw[if_neg (by decide),if_pos rfl,e1,hop,hz,aP (by omega),aL,bU (by omega),bn,r1,af]
 dsimp only
 rw[e2,r2,af]
 dsimp only
 rw[e3,r3,af]
 dsimp only
 rw[e4,r4,af]
 exact⟨g',m',c',l',rfl,rfl,ok4⟩
theorem move_25 (hx:ExV x 25)(hz:x.size=z)(rip fl nx:Int):∃g' m' c' l',(MS.mk g m c l).move fl nx x 25 z=⟨g',m',c',l'⟩∧aq ((x,()),((g,rip,fl,nx,c,()),m,l,()))=some ((),((g',rip,fl,nx,c',()),m',l',()))∧(MS.mk g' m' c' l').ok (k+4):=by
 unfold MS.move aq
 dsimp only
 have hop:=hx.op
 have hz':cM (z:Int)=true:=by rw[←hz];exact hx.szs.1 (by decide)
 have hdv:=hx.dv
 rw[hz]at hdv
 have hsv:=hx.sv
 have hb:=hsv.b (hx.kd.2.2.1 rfl).2
 obtain⟨g',m',c',l',e2,r2,ok2⟩:=om hs (by omega) hz' hdv (hx.kd.1 (by decide)) nx (mq (g:=g) (nx:=nx) hsv)
 have hfin:∀a:Int,a=gd g nx x.src→(bnd (aj ((ck x.dst (),((z:Int),(a,()))),((g,rip,fl,nx,c,()),m,l,()))) (fun x8=>(some ((),((x8.2.1.1,(rip,(fl,(nx,x8.2.1.2.2.2.2)))),x8.2.2)))))=some ((),((g',rip,fl,nx,c',()),m',l',())):=by
  rintro _ rfl
  rw[r2,af]
 rw[if_neg (by decide),if_neg (by decide),if_pos rfl,hop,hz,aP (by omega),aL,aP (by omega),aL,bU (by omega),bn]
 refine⟨g',m',c',l',e2,?_,ok2.mono (by omega)⟩
 by_cases b16:x.src.base=16
 ·rw[bU b16,bn]
  by_cases hi:0≤x.src.index
  ·rw[ag (fT hi),ag (cj hi (by omega))]
   exact hfin _ (by unfold gd;dsimp only;rw[if_pos b16,if_pos hi])
  ·rw[aB (jP hi)]
   exact hfin _ (by unfold gd;dsimp only;rw[if_pos b16,if_neg hi])
 ·rw[aP b16,aL]
  by_cases hb0:0≤x.src.base
  ·rw[ag (fT hb0),ag (cj hb0 (by omega))]
   by_cases hi:0≤x.src.index
   ·rw[ag (fT hi),ag (cj hi (by omega))]
    exact hfin _ (by unfold gd;dsimp only;rw[if_neg b16,if_pos hb0,if_pos hi])
   ·rw[aB (jP hi)]
    exact hfin _ (by unfold gd;dsimp only;rw[if_neg b16,if_pos hb0,if_neg hi])
  ·rw[aB (jP hb0)]
   by_cases hi:0≤x.src.index
   ·rw[ag (fT hi),ag (cj hi (by omega))]
    exact hfin _ (by unfold gd;dsimp only;rw[if_neg b16,if_neg hb0,if_pos hi])
   ·rw[aB (jP hi)]
    exact hfin _ (by unfold gd;dsimp only;rw[if_neg b16,if_neg hb0,if_neg hi])
theorem move_26 (hx:ExV x 26)(hz:x.size=z)(rip fl nx:Int):∃g' m' c' l',(MS.mk g m c l).move fl nx x 26 z=⟨g',m',c',l'⟩∧aq ((x,()),((g,rip,fl,nx,c,()),m,l,()))=some ((),((g',rip,fl,nx,c',()),m',l',()))∧(MS.mk g' m' c' l').ok (k+4):=by
 unfold MS.move aq
 dsimp only
 have hop:=hx.op
 have hz':cM (z:Int)=true:=by rw[←hz];exact hx.szs.1 (by decide)
 have hdv:=hx.dv
 rw[hz]at hdv
 obtain⟨f,hf,hf'⟩:=tP (hx.fr.1 (by decide))
 have hsv:=hx.sv
 rw[show sSz x 26=x.frm from by unfold sSz;rw[if_neg (by decide),if_pos (by rw[hf];have:=(fi hf').1;omega)],hf]at hsv
 have hfn:x.frm.toNat=f:=by rw[hf,Int.toNat_natCast]
 obtain⟨v1,c1,l1,e1,r1,ok1,I1⟩:=nF hs (by omega) hf' hsv nx
 obtain⟨g',m',c',l',e2,r2,ok2⟩:=om ok1 (by omega) hz' hdv (hx.kd.1 (by decide)) nx I1
 rw[if_neg (by decide),if_neg (by decide),if_neg (by decide),if_pos rfl,hfn,e1,hop,hz,hf,aP (by omega),aL,aP (by omega),aL,aP (by omega),aL,bU (by omega),bn,r1,af]
 dsimp only
 rw[r2,af]
 exact⟨g',m',c',l',e2,rfl,ok2.mono (by omega)⟩
theorem move_27 (hx:ExV x 27)(hz:x.size=z)(rip fl nx:Int):∃g' m' c' l',(MS.mk g m c l).move fl nx x 27 z=⟨g',m',c',l'⟩∧aq ((x,()),((g,rip,fl,nx,c,()),m,l,()))=some ((),((g',rip,fl,nx,c',()),m',l',()))∧(MS.mk g' m' c' l').ok (k+4):=by
 unfold MS.move aq
 dsimp only
 have hop:=hx.op
 have hz':cM (z:Int)=true:=by rw[←hz];exact hx.szs.1 (by decide)
 have hdv:=hx.dv
 rw[hz]at hdv
 obtain⟨f,hf,hf'⟩:=tP (hx.fr.1 (by decide))
 have hsv:=hx.sv
 rw[show sSz x 27=x.frm from by unfold sSz;rw[if_neg (by decide),if_pos (by rw[hf];have:=(fi hf').1;omega)],hf]at hsv
 have hfn:x.frm.toNat=f:=by rw[hf,Int.toNat_natCast]
 obtain⟨h1,h8⟩:=fi hf'
 obtain⟨v1,c1,l1,e1,r1,ok1,I1⟩:=nF hs (by omega) hf' hsv nx
 obtain⟨g',m',c',l',e2,r2,ok2⟩:=om ok1 (by omega) hz' hdv (hx.kd.1 (by decide)) nx (le (8*f-1) (by omega) v1)
 rw[if_neg (by decide),if_neg (by decide),if_neg (by decide),if_neg (by decide),if_pos rfl,hfn,e1,hop,hz,hf,aP (by omega),aL,aP (by omega),aL,aP (by omega),aL,aP (by omega),aL,bU (by omega),bn,r1,af]
 dsimp only
 rw[kB _ _ (by omega) (by omega),af,show(8*(f:Int)-1).toNat=8*f-1 by omega,r2,af]
 exact⟨g',m',c',l',e2,rfl,ok2.mono (by omega)⟩
theorem move_35 (hx:ExV x 35)(hz:x.size=z)(rip fl nx:Int):∃g' m' c' l',(MS.mk g m c l).move fl nx x 35 z=⟨g',m',c',l'⟩∧aq ((x,()),((g,rip,fl,nx,c,()),m,l,()))=some ((),((g',rip,fl,nx,c',()),m',l',()))∧(MS.mk g' m' c' l').ok (k+4):=by
 unfold MS.move aq
 dsimp only
 have hop:=hx.op
 have hdv:=hx.dv
 rw[hx.szs.2.2.2.1 rfl]at hdv
 obtain⟨g',m',c',l',e2,r2,ok2⟩:=om hs (by omega) (n:=1) rfl hdv (hx.kd.1 (by decide)) nx (v:=if iZ x.cond fl=true then 1 else 0) (by split<;>(unfold I64;omega))
 have r2':aj ((ck x.dst (),(1,(if iZ x.cond fl=true then 1 else 0,()))),((g,rip,fl,nx,c,()),m,l,()))=_:=r2 rip fl
 rw[if_neg (by decide),if_neg (by decide),if_neg (by decide),if_neg (by decide),if_neg (by decide),if_pos rfl,hop,aP (by omega),aL,aP (by omega),aL,aP (by omega),aL,aP (by omega),aL,aP (by omega),aL,bU (by omega),bn,pD hx.c0 hx.c1,af]
 dsimp only
 rw[eG,af,r2',af]
 exact⟨g',m',c',l',e2,rfl,ok2.mono (by omega)⟩
theorem move_36 (hx:ExV x 36)(hz:x.size=z)(rip fl nx:Int):∃g' m' c' l',(MS.mk g m c l).move fl nx x 36 z=⟨g',m',c',l'⟩∧aq ((x,()),((g,rip,fl,nx,c,()),m,l,()))=some ((),((g',rip,fl,nx,c',()),m',l',()))∧(MS.mk g' m' c' l').ok (k+4):=by
 unfold MS.move aq
 dsimp only
 have hop:=hx.op
 have hz':cM (z:Int)=true:=by rw[←hz];exact hx.szs.1 (by decide)
 have hdv:=hx.dv
 rw[hz]at hdv
 have hsv:=hx.sv
 rw[show sSz x 36=x.size from by unfold sSz;rw[if_neg (by decide),hx.fr.2 (by decide),if_neg (by decide)],hz]at hsv
 obtain⟨v1,c1,l1,e1,r1,ok1,I1⟩:=nF hs (by omega) hz' hsv nx
 have hb:∃v2 c2 l2,(if iZ x.cond fl=true then(v1,MS.mk g m c1 l1)else(MS.mk g m c1 l1).rd nx x.dst z)=(v2,MS.mk g m c2 l2)∧(MS.mk g m c2 l2).ok (k+2)∧I64 v2∧
   (iZ x.cond fl=true→v2=v1∧c2=c1∧l2=l1)∧(iZ x.cond fl=false→∀rip fl,an ((ck x.dst (),((z:Int),())),((g,rip,fl,nx,c1,()),m,l1,()))=some (v2,((g,rip,fl,nx,c2,()),m,l2,()))):=by
  by_cases hh:iZ x.cond fl=true
  ·rw[if_pos hh]
   exact⟨v1,c1,l1,rfl,ok1.mono (by omega),I1,fun _=>⟨rfl,rfl,rfl⟩,fun h=>by rw[hh]at h;cases h⟩
  ·rw[if_neg hh]
   obtain⟨v2,c2,l2,e2,r2,ok2,I2⟩:=nF ok1 (by omega) hz' hdv nx
   exact⟨v2,c2,l2,e2,ok2,I2,fun h=>absurd h hh,fun _=>r2⟩
 obtain⟨v2,c2,l2,e2,ok2,I2,t1,t2⟩:=hb
 obtain⟨g',m',c',l',e3,r3,ok3⟩:=om ok2 (by omega) hz' hdv (hx.kd.1 (by decide)) nx I2
 rw[if_neg (by decide),if_neg (by decide),if_neg (by decide),if_neg (by decide),if_neg (by decide),if_neg (by decide),if_pos rfl,e1,hop,hz,aP (by omega),aL,aP (by omega),aL,aP (by omega),aL,aP (by omega),aL,aP (by omega),aL,aP (by omega),aL,bU (by omega),bn,r1,af,pD hx.c0 hx.c1,af]
 dsimp only
 rw[e2]
 dsimp only
 refine⟨g',m',c',l',e3,?_,ok3.mono (by omega)⟩
 refine(Ret.bnd (Q:=fun y=>y=Sum.inl ((v2,()),((g,rip,fl,nx,c2,()),(m,(l2,((fB x ()),())))))) ?_ ?_).eq
 ·by_cases hh:iZ x.cond fl=true
  ·obtain⟨rfl,rfl,rfl⟩:=t1 hh
   rw[hh,show aX true=false from rfl,aL]
   exact Ret.some rfl
  ·rw[Bool.eq_false_iff.2 hh,show aX false=true from rfl,bn,t2 (Bool.eq_false_iff.2 hh),af]
   exact Ret.some rfl
 rintro _ rfl
 rw[aE]
 dsimp only[fB,ck,cp7]
 have hw:=r3 rip fl
 unfold ck at hw
 rw[hz,hw,af]
 exact Ret.some rfl
theorem move_39 (hx:ExV x 39)(hz:x.size=z)(rip fl nx:Int):∃g' m' c' l',(MS.mk g m c l).move fl nx x 39 z=⟨g',m',c',l'⟩∧aq ((x,()),((g,rip,fl,nx,c,()),m,l,()))=some ((),((g',rip,fl,nx,c',()),m',l',()))∧(MS.mk g' m' c' l').ok (k+4):=by
 unfold MS.move aq
 dsimp only
 have hop:=hx.op
 have h3:z=2∨z=4∨z=8:=by have:=hx.szs.2.1 rfl;omega
 have hz':cM (z:Int)=true:=by rcases h3 with rfl|rfl|rfl<;>rfl
 have hz2:cM ((z/2:Nat):Int)=true:=by rcases h3 with rfl|rfl|rfl<;>rfl
 have hq:nE .i64 (z:Int) 2=((z/2:Nat):Int):=by rw[mB (by omega) (by decide) (by omega)];omega
 obtain⟨h1,h8⟩:=fi hz2
 have hI:=le (8*(z/2)-1) (by omega) (lB g 0 (z/2))
 rw[if_neg (by decide),if_neg (by decide),if_neg (by decide),if_neg (by decide),if_neg (by decide),if_neg (by decide),if_neg (by decide),if_pos rfl,hop,hz,aP (by omega),aL,aP (by omega),aL,aP (by omega),aL,aP (by omega),aL,aP (by omega),aL,aP (by omega),aL,aP (by omega),aL,bU (by omega),bn,m8,af]
 dsimp only
 rw[aL,hq,bg _ (z/2) hz2,af]
 dsimp only
 rw[kB _ _ (by omega) (by omega),af,af,show(8*((z/2:Nat):Int)-1).toNat=8*(z/2)-1 by omega,oX (by decide)]
 dsimp only
 rw[aL]
 refine⟨_,m,c,l,rfl,?_,⟨hs.m,Nat.le_trans hs.l (by omega),kA (g:=g) (r:=0) hs.g hI hz'⟩⟩
 exact xw hz' (by decide) (fun g'=>some ((),((g',(rip,(fl,(nx,(c,()))))),(m,(l,())))))
theorem move_40 (hx:ExV x 40)(hz:x.size=z)(rip fl nx:Int):∃g' m' c' l',(MS.mk g m c l).move fl nx x 40 z=⟨g',m',c',l'⟩∧aq ((x,()),((g,rip,fl,nx,c,()),m,l,()))=some ((),((g',rip,fl,nx,c',()),m',l',()))∧(MS.mk g' m' c' l').ok (k+4):=by
 unfold MS.move aq
 dsimp only
 have hop:=hx.op
 have hz':cM (z:Int)=true:=by rw[←hz];exact hx.szs.1 (by decide)
 have hdv:=hx.dv
 rw[hz]at hdv
 obtain⟨h1,h8⟩:=fi hz'
 have hI:=le (8*z-1) (by omega) (lB g 0 z)
 have hI2:I64 (dh .i64 (sx (8*z-1) (lB g 0 z)) 63):=by rw[zE hI];split<;>(unfold I64;omega)
 rw[if_neg (by decide),if_neg (by decide),if_neg (by decide),if_neg (by decide),if_neg (by decide),if_neg (by decide),if_neg (by decide),if_neg (by decide),if_pos rfl,hop,hz,aP (by omega),aL,aP (by omega),aL,aP (by omega),aL,aP (by omega),aL,aP (by omega),aL,aP (by omega),aL,aP (by omega),aL,aP (by omega),aL,bU (by omega),bn,m8,af]
 dsimp only
 rw[aL,bg _ z hz',af]
 dsimp only
 rw[kB _ _ (by omega) (by omega),af,isHigh2,af,show(8*(z:Int)-1).toNat=8*z-1 by omega,oX (by decide)]
 dsimp only
 rw[aL]
 refine⟨_,m,c,l,rfl,?_,⟨hs.m,Nat.le_trans hs.l (by omega),kA (g:=g) (r:=2) hs.g hI2 hz'⟩⟩
 exact xw hz' (by decide) (fun g'=>some ((),((g',(rip,(fl,(nx,(c,()))))),(m,(l,())))))
end
end
noncomputable section
theorem zero1 (v:Int):aa ((v,(1,())),())=some (dc v 1,()):=bg v 1 rfl
theorem set_c0 {g:List Int}{v:Int}{n:Nat}(hn:cM (n:Int)=true){α:Type}(Z:List Int→Option α):
  (br (leI 4 (n:Int)) (bnd (aa ((v,((n:Int),())),())) (fun x32=>Z (cF (dQ 16 (aD .i) g) 0 x32.1))) (bnd (aa ((v,((n:Int),())),())) (fun x33=>(bnd (some (lB g 0 n,())) (fun x34=>Z (cF (dQ 16 (aD .i) g) 0 (aF .i64 (aQ g 0 (aD .i)) (aT .i64 x33.1 x34.1))))))))=Z (rD g 0 n v):=by
 have:=xw (g:=g) (r:=0) (v:=v) hn (by decide) Z
 rw[bg (aQ g 0 (aD .i)) n hn,oX (by decide)]at this
 exact this
def setF {α:Type}(g:List Int)(r:Int)(n:Nat)(v:Int)(Z:List Int→Option α):Option α:=
 (bnd (ap ((r,()),())) (fun x8=>(br x8.1 (br (inR (aT .i64 r 16) 16) (bnd (aa ((v,(1,())),())) (fun x9=>Z (cF (dQ 16 (aD .i) g) (aT .i64 r 16) (ior .i64 (gG .i64 (aQ g (aT .i64 r 16) (aD .i)) 65280) (gP .i64 x9.1 8))))) none) (br (leI 4 (n:Int)) (bnd (aa ((v,((n:Int),())),())) (fun x10=>(br (inR r 16) (Z (cF (dQ 16 (aD .i) g) r x10.1)) none))) (br (inR r 16) (br (inR r 16) (bnd (aa ((v,((n:Int),())),())) (fun x11=>(bnd (aa (((aQ g r (aD .i)),((n:Int),())),())) (fun x12=>(br (inR r 16) (Z (cF (dQ 16 (aD .i) g) r (aF .i64 (aQ g r (aD .i)) (aT .i64 x11.1 x12.1)))) none))))) none) none)))))
theorem sP {g:List Int}{r v:Int}{n:Nat}(hn:cM (n:Int)=true)(hr:qu r n){α:Type}(Z:List Int→Option α):setF g r n v Z=Z (rD g r n v):=set_m hn hr Z
def upZ (z:Nat):Int:=if z=1 then 16 else 2
def MS.wide (s:MS)(fl nx:Int)(x:Ins)(n z:Nat):MS×Int:=
 let b:=s.rd nx x.src z
 if n=13∨n=14 then
  let r:=vd n z (lB s.g 0 z) b.1 fl
  ({b.2 with g:=rD (rD s.g 0 z r.1) (upZ z) z r.2.1},r.2.2)
 else
  let r:=yt n z (lB s.g (upZ z) z) (lB s.g 0 z) b.1
  ({b.2 with g:=rD (rD s.g 0 z r.1) (upZ z) z r.2.1,code:=if r.2.2=false∧b.2.code=0 then 16 else b.2.code},fl)
theorem zO (z:Nat):fM (((z:Int),()),())=some (upZ z,()):=by
 unfold fM upZ
 dsimp only
 by_cases h:z=1
 ·rw[bU (by omega),bn,if_pos h]
 ·rw[aP (by omega),aL,if_neg h]
theorem s7 (z:Nat):qu (upZ z) z:=by
 unfold upZ qu
 split<;>omega
theorem wide_m {g:List Int}{m:List Page}{c:Int}{l:List Acc}{k:Nat}(hs:(MS.mk g m c l).ok k)(hk:k+4≤1000){x:Ins}{n z:Nat}(hx:ExV x n)(hn:13≤n∧n≤16)(hz:x.size=z)
  {fl:Int} (hI:I64 fl) (hf:bh fl=true) (rip nx:Int):
  ∃g' m' c' l' fl',(MS.mk g m c l).wide fl nx x n z=(⟨g',m',c',l'⟩,fl')∧bR ((x,()),((g,rip,fl,nx,c,()),m,l,()))=some ((),((g',rip,fl',nx,c',()),m',l',()))∧(MS.mk g' m' c' l').ok (k+4)∧I64 fl'∧bh fl'=true:=by
 have hz':cM (z:Int)=true:=by rw[←hz];exact hx.szs.1 (by omega)
 have hsv:=hx.sv
 rw[show sSz x n=x.size from by unfold sSz;rw[if_neg (by omega),hx.fr.2 (by omega),if_neg (by decide)],hz]at hsv
 obtain⟨v1,c1,l1,e1,r1,ok1,I1⟩:=nF hs (by omega) hz' hsv nx
 have hgI:∀r,I64 (lB g r z):=fun r=>tH (g:=g) hs.g hz'
 unfold MS.wide bR
 dsimp only
 have hop:=hx.op
 rw[e1,hop,hz,r1,af,zO,af]
 dsimp only
 have hb:br (eqI (n:Int) 13) (some true) (some (eqI (n:Int) 14))=some (decide (n=13∨n=14)):=by
  by_cases a:n=13
  ·rw[bU (by omega),bn,decide_eq_true (by omega)]
  ·rw[aP (by omega),aL]
   by_cases b:n=14
   ·rw[bU (by omega),decide_eq_true (by omega)]
   ·rw[aP (by omega),decide_eq_false (by omega)]
 rw[hb,af]
 by_cases hm:n=13∨n=14
 ·rw[decide_eq_true hm,bn,m8,af,if_pos hm]
  dsimp only
  rw[aL,bg _ z hz',af,oX (by decide)]
  dsimp only
  rw[nn hz' (hgI 0) I1 hI hf,af,af]
  dsimp only
  rw[aL]
  obtain⟨o1,o2,o3,o4⟩:=xb (op:=n) (n:=z) (a:=lB g 0 z) (b:=v1) hI hf
  obtain⟨p,hp⟩:∃p,p=vd n z (lB g 0 z) v1 fl:=⟨_,rfl⟩
  rw[←hp]at o1 o2 o3 o4⊢
  obtain⟨lo,hi,f'⟩:=p
  clear hp
  dsimp only at o1 o2 o3 o4⊢
  refine⟨_,m,c1,l1,f',rfl,?_,⟨ok1.m,Nat.le_trans ok1.l (by omega),kA (g:=rD g 0 z lo) (kA (g:=g) hs.g o1 hz') o2 hz'⟩,o4,o3⟩
  exact(set_c0 (g:=g) (v:=lo) hz' (fun g'=>setF g' (upZ z) z hi (fun g''=>some ((),((g'',(rip,(f',(nx,(c1,()))))),(m,(l1,()))))))).trans (sP hz' (s7 z) _)
 ·rw[decide_eq_false hm,aL,if_neg hm]
  obtain⟨o1,o2⟩:=yu (op:=n) (n:=z) (hi:=lB g (upZ z) z) (lo:=lB g 0 z) (d:=v1)
  have hd:=v4 (op:=n) (n:=z) (hi:=lB g (upZ z) z) (lo:=lB g 0 z) (d:=v1) hz' (hgI _) (hgI _) I1
  obtain⟨p,hp⟩:∃p,p=yt n z (lB g (upZ z) z) (lB g 0 z) v1:=⟨_,rfl⟩
  rw[←hp]at o1 o2 hd⊢
  obtain⟨q,r,ok⟩:=p
  clear hp
  dsimp only at o1 o2 hd⊢
  obtain⟨c2,hc2⟩:∃c2,c2=if ok=false∧c1=0 then 16 else c1:=⟨_,rfl⟩
  rw[←hc2]
  refine⟨_,m,c2,l1,fl,rfl,?_,⟨ok1.m,Nat.le_trans ok1.l (by omega),kA (g:=rD g 0 z q) (kA (g:=g) hs.g o1 hz') o2 hz'⟩,hI,hf⟩
  have hbr:br (aX ok) (some (eqI c1 0)) (some false)=some (decide (ok=false∧c1=0)):=by
   cases ok with
   |true=>rfl
   |false=>rw[show aX false=true from rfl,bn];unfold eqI;simp only[true_and]
  rw[jo,af]
  dsimp only
  have hget:lB g (upZ z) z=if z=1 then dc (dh .i64 (aQ g 0 (aD .i)) 8) 1 else dc (aQ g 2 (aD .i)) z:=by
   unfold lB upZ
   by_cases h:z=1
   ·rw[if_pos h,if_pos h,if_pos (by decide)];rfl
   ·rw[if_neg h,if_neg h,if_neg (by decide)]
  by_cases h1:z=1
  ·rw[if_pos h1]at hget
   have hu:upZ z=16:=if_pos h1
   have hhi:decide (16≤upZ z∧upZ z≤19)=true:=by rw[hu];decide
   rw[hhi,bn,ag (show inR (aT .i64 (upZ z) 16) 16=true by rw[hu];rfl),show aT .i64 (upZ z) 16=0 by rw[hu];rfl,zero1 (dh .i64 (aQ g 0 (aD .i)) 8),af,←hget]
   dsimp only
   rw[m8,af]
   dsimp only
   rw[aL,bg _ z hz',af,oX (r:=0) (by decide)]
   dsimp only
   rw[hd,af]
   dsimp only
   rw[hbr,af]
   refine(Ret.bnd (Q:=fun y=>y=Sum.inl ((upZ z,(q,(r,()))),((g,(rip,(fl,(nx,(c2,()))))),(m,(l1,((fB x ()),())))))) ?_ ?_).eq
   ·by_cases hcc:ok=false∧c1=0
    ·rw[decide_eq_true hcc,bn,hc2,if_pos hcc]
     exact Ret.some rfl
    ·rw[decide_eq_false hcc,aL,hc2,if_neg hcc]
     exact Ret.some rfl
   rintro _ rfl
   rw[aE]
   dsimp only[fB,ck]
   rw[af,hz]
   dsimp only
   rw[aL]
   refine Ret.of_eq ((xw (g:=g) (r:=0) (v:=q) hz' (by decide) (fun g'=>setF g' (upZ z) z r (fun g''=>some ((),((g'',(rip,(fl,(nx,(c2,()))))),(m,(l1,()))))))).trans (sP hz' (s7 z) _)) rfl
  ·rw[if_neg h1]at hget
   have hu:upZ z=2:=if_neg h1
   have hhi:decide (16≤upZ z∧upZ z≤19)=false:=by rw[hu];decide
   rw[hhi,aL,ag (show inR (upZ z) 16=true by rw[hu];rfl),bg (aQ g (upZ z) (aD .i)) z hz',af,show dc (aQ g (upZ z) (aD .i)) z=lB g (upZ z) z by rw[hget,hu]]
   dsimp only
   rw[m8,af]
   dsimp only
   rw[aL,bg _ z hz',af,oX (r:=0) (by decide)]
   dsimp only
   rw[hd,af]
   dsimp only
   rw[hbr,af]
   refine(Ret.bnd (Q:=fun y=>y=Sum.inl ((upZ z,(q,(r,()))),((g,(rip,(fl,(nx,(c2,()))))),(m,(l1,((fB x ()),())))))) ?_ ?_).eq
   ·by_cases hcc:ok=false∧c1=0
    ·rw[decide_eq_true hcc,bn,hc2,if_pos hcc]
     exact Ret.some rfl
    ·rw[decide_eq_false hcc,aL,hc2,if_neg hcc]
     exact Ret.some rfl
   rintro _ rfl
   rw[aE]
   dsimp only[fB,ck]
   rw[af,hz]
   dsimp only
   rw[aL]
   refine Ret.of_eq ((xw (g:=g) (r:=0) (v:=q) hz' (by decide) (fun g'=>setF g' (upZ z) z r (fun g''=>some ((),((g'',(rip,(fl,(nx,(c2,()))))),(m,(l1,()))))))).trans (sP hz' (s7 z) _)) rfl
end
noncomputable section
def mvB (n:Nat):Bool:=decide (n=9∨n=28∨n=25∨n=26∨n=27∨n=35∨n=36∨n=39∨n=40)
def wdB (n:Nat):Bool:=decide (n=13∨n=14∨n=15∨n=16)
def fwB (n:Nat):Bool:=decide (n=29∨n=30∨n=31∨n=34∨n=32∨n=33∨n=41∨n=42∨n=38∨n=43∨n=44∨n=37)
def exM (g:List Int)(rip fl:Int)(m:List Page)(x:Ins)(n z:Nat):MS×Int×Int:=
 let nx:=aF .i64 rip x.len
 let s:MS:=⟨g,m,0,[]⟩
 if mvB n=true then(s.move fl nx x n z,nx,fl)
 else if wdB n=true then((s.wide fl nx x n z).1,nx,(s.wide fl nx x n z).2)
 else if fwB n=true then((s.flow nx fl nx x n).1,(s.flow nx fl nx x n).2,fl)
 else((s.reck nx fl x n z).1,nx,(s.reck nx fl x n z).2)
def exR (g:List Int)(rip fl:Int)(m:List Page)(r:MS×Int×Int):((List Int×Int×Int×Unit)×Unit×Int×Unit)×List Page×List Acc×Unit:=
 if r.1.code≠0 then(((g,rip,fl,()),(),r.1.code,()),m,r.1.l,())else(((r.1.g,r.2.1,r.2.2,()),(),0,()),r.1.m,r.1.l,())
abbrev exT (g:List Int)(rip fl:Int)(m:List Page)(x:Ins):(List Int×Int×Int×Unit)×(List Page×Unit)×(Int×Int×Int×Int×Int×Int×Int×Int×Int×Int×Int×Int×Int×Int×Int×Int×Int×Int×Int×Unit)×(List Int×Int×Int×Unit)×Unit×TM:=
 (((g,(rip,(fl,()))):List Int×Int×Int×Unit),((m,()),((fB x ()),((([]:List Int),(0,(0,()))),((),((g,(aF .i64 rip x.len,(fl,(aF .i64 rip x.len,(0,()))))),(m,(([]:List Acc),()))))))))
theorem exec_m {g:List Int}{rip fl:Int}{m:List Page}{x:Ins}{n z:Nat}(hm:MemT m)(hg:iY g)(hI:I64 fl)(hf:bh fl=true)(hx:ExV x n)(hz:x.size=z):
  gz (((g,(rip,(fl,()))),((m,()),(x,()))),())=some (exR g rip fl m (exM g rip fl m x n z))∧(exM g rip fl m x n z).1.ok 4∧bh (exM g rip fl m x n z).2.2=true∧I64 (exM g rip fl m x n z).2.2:=by
 have hs:(MS.mk g m 0 []).ok 0:=⟨hm,Nat.le_refl 0,hg⟩
 have hop:=hx.op
 have h1:=hx.n1
 have h2:=hx.n2
 have hxop:(iD (fB x ()))=x:=rfl
 have key:∃g' m' c' l' rip' fl',exM g rip fl m x n z=(⟨g',m',c',l'⟩,rip',fl')∧(MS.mk g' m' c' l').ok 4∧bh fl'=true∧I64 fl'∧
   (mvB n=true→rip'=aF .i64 rip x.len∧fl'=fl∧aq ((x,()),((g,(aF .i64 rip x.len,(fl,(aF .i64 rip x.len,(0,()))))),(m,(([]:List Acc),()))))=some ((),((g',(aF .i64 rip x.len,(fl,(aF .i64 rip x.len,(c',()))))),(m',(l',())))))∧
   (mvB n=false→wdB n=true→rip'=aF .i64 rip x.len∧bR ((x,()),((g,(aF .i64 rip x.len,(fl,(aF .i64 rip x.len,(0,()))))),(m,(([]:List Acc),()))))=some ((),((g',(aF .i64 rip x.len,(fl',(aF .i64 rip x.len,(c',()))))),(m',(l',())))))∧
   (mvB n=false→wdB n=false→fwB n=true→fl'=fl∧ah ((x,()),((g,(aF .i64 rip x.len,(fl,(aF .i64 rip x.len,(0,()))))),(m,(([]:List Acc),()))))=some ((),((g',(rip',(fl,(aF .i64 rip x.len,(c',()))))),(m',(l',())))))∧
   (mvB n=false→wdB n=false→fwB n=false→rip'=aF .i64 rip x.len∧bK ((x,()),((g,(aF .i64 rip x.len,(fl,(aF .i64 rip x.len,(0,()))))),(m,(([]:List Acc),()))))=some ((),((g',(aF .i64 rip x.len,(fl',(aF .i64 rip x.len,(c',()))))),(m',(l',()))))):=by
  unfold exM
  dsimp only
  cases hmv:mvB n with
  |true=>
   rw[if_pos rfl]
   have hn:=of_decide_eq_true hmv
   have hmove:∃g' m' c' l',(MS.mk g m 0 []).move fl (aF .i64 rip x.len) x n z=⟨g',m',c',l'⟩∧aq ((x,()),((g,aF .i64 rip x.len,fl,aF .i64 rip x.len,0,()),m,[],()))=some ((),((g',aF .i64 rip x.len,fl,aF .i64 rip x.len,c',()),m',l',()))∧(MS.mk g' m' c' l').ok (0+4):=by
    rcases hn with rfl|rfl|rfl|rfl|rfl|rfl|rfl|rfl|rfl
    ·exact move_9 hs (by decide) hx hz _ fl _
    ·exact move_28 hs (by decide) hx hz _ fl _
    ·exact move_25 hs (by decide) hx hz _ fl _
    ·exact move_26 hs (by decide) hx hz _ fl _
    ·exact move_27 hs (by decide) hx hz _ fl _
    ·exact move_35 hs (by decide) hx hz _ fl _
    ·exact move_36 hs (by decide) hx hz _ fl _
    ·exact move_39 hs (by decide) hx hz _ fl _
    ·exact move_40 hs (by decide) hx hz _ fl _
   obtain⟨g',m',c',l',e,r,ok⟩:=hmove
   exact⟨g',m',c',l',_,fl,by rw[e],ok,hf,hI,fun _=>⟨rfl,rfl,r⟩,(fun h=>by cases h),(fun h=>by cases h),(fun h=>by cases h)⟩
  |false=>
   rw[if_neg (by decide)]
   cases hwd:wdB n with
   |true=>
    rw[if_pos rfl]
    have hn:=of_decide_eq_true hwd
    obtain⟨g',m',c',l',fl',e,r,ok,fI,ff⟩:=wide_m hs (by decide) hx (by omega) hz hI hf (aF .i64 rip x.len) (aF .i64 rip x.len)
    exact⟨g',m',c',l',_,fl',by rw[e],ok,ff,fI,(fun h=>by cases h),fun _ _=>⟨rfl,r⟩,(fun _ h=>by cases h),(fun _ h=>by cases h)⟩
   |false=>
    rw[if_neg (by decide)]
    cases hfw:fwB n with
    |true=>
     rw[if_pos rfl]
     have hn:=of_decide_eq_true hfw
     have hflow:∃g' m' c' l' rip',(MS.mk g m 0 []).flow (aF .i64 rip x.len) fl (aF .i64 rip x.len) x n=(⟨g',m',c',l'⟩,rip')∧ah ((x,()),((g,aF .i64 rip x.len,fl,aF .i64 rip x.len,0,()),m,[],()))=some ((),((g',rip',fl,aF .i64 rip x.len,c',()),m',l',()))∧(MS.mk g' m' c' l').ok (0+3):=by
      rcases hn with rfl|rfl|rfl|rfl|rfl|rfl|rfl|rfl|rfl|rfl|rfl|rfl
      ·exact flow_29 hs (by decide) hx _ fl _
      ·exact flow_30 hs (by decide) hx _ fl _
      ·exact flow_31 hs (by decide) hx _ fl _
      ·exact flow_34 hs (by decide) hx _ fl _
      ·exact flow_32 hs (by decide) hx _ fl _
      ·exact flow_33 hs (by decide) hx _ fl _
      ·exact flow_41 hs (by decide) hx _ fl _
      ·exact flow_42 hs (by decide) hx _ fl _
      ·exact flow_38 hs (by decide) hx _ fl _
      ·exact flow_43 hs (by decide) hx _ fl _
      ·exact flow_44 hs (by decide) hx _ fl _
      ·exact flow_37 hs (by decide) hx _ fl _
     obtain⟨g',m',c',l',rip',e,r,ok⟩:=hflow
     exact⟨g',m',c',l',rip',fl,by rw[e],ok.mono (by decide),hf,hI,(fun h=>by cases h),(fun _ h=>by cases h),fun _ _ _=>⟨rfl,r⟩,(fun _ _ h=>by cases h)⟩
    |false=>
     rw[if_neg (by decide)]
     have n1:=of_decide_eq_false hmv
     have n2:=of_decide_eq_false hwd
     have n3:=of_decide_eq_false hfw
     obtain⟨g',m',c',l',fl',e,r,ok,fI,ff⟩:=reck_m hs (by decide) hx (by omega) hz hI hf (aF .i64 rip x.len)
     exact⟨g',m',c',l',_,fl',by rw[e],ok.mono (by decide),ff,fI,(fun h=>by cases h),(fun _ h=>by cases h),(fun _ _ h=>by cases h),fun _ _ _=>⟨rfl,r _⟩⟩
 obtain⟨g',m',c',l',rip',fl',e,ok,ff,fI,k1,k2,k3,k4⟩:=key
 rw[e]
 refine⟨?_,ok,ff,fI⟩
 unfold gz
 dsimp only
 rw[pp m (by have:=hm.len;omega),af,hop]
 dsimp only
 refine(Ret.bnd (Q:=fun y=>y=Sum.inl (((n:Int),(mvB n,())),exT g rip fl m x)) ?_ ?_).eq
 ·by_cases h9:n=9
  ·rw[bU (by omega),bn,show mvB n=true from decide_eq_true (by omega)]
   exact Ret.some rfl
  rw[aP (by omega),aL]
  refine Ret.bnd (Q:=fun y=>y=Sum.inl (((n:Int),(mvB n,())),exT g rip fl m x)) ?_ (by rintro _ rfl;rw[aE];exact Ret.some rfl)
  by_cases h28:n=28
  ·rw[bU (by omega),bn,show mvB n=true from decide_eq_true (by omega)]
   exact Ret.some rfl
  rw[aP (by omega),aL]
  refine Ret.bnd (Q:=fun y=>y=Sum.inl (((n:Int),(mvB n,())),exT g rip fl m x)) ?_ (by rintro _ rfl;rw[aE];exact Ret.some rfl)
  by_cases h25:n=25
  ·rw[bU (by omega),bn,show mvB n=true from decide_eq_true (by omega)]
   exact Ret.some rfl
  rw[aP (by omega),aL]
  refine Ret.bnd (Q:=fun y=>y=Sum.inl (((n:Int),(mvB n,())),exT g rip fl m x)) ?_ (by rintro _ rfl;rw[aE];exact Ret.some rfl)
  by_cases h26:n=26
  ·rw[bU (by omega),bn,show mvB n=true from decide_eq_true (by omega)]
   exact Ret.some rfl
  rw[aP (by omega),aL]
  refine Ret.bnd (Q:=fun y=>y=Sum.inl (((n:Int),(mvB n,())),exT g rip fl m x)) ?_ (by rintro _ rfl;rw[aE];exact Ret.some rfl)
  by_cases h27:n=27
  ·rw[bU (by omega),bn,show mvB n=true from decide_eq_true (by omega)]
   exact Ret.some rfl
  rw[aP (by omega),aL]
  refine Ret.bnd (Q:=fun y=>y=Sum.inl (((n:Int),(mvB n,())),exT g rip fl m x)) ?_ (by rintro _ rfl;rw[aE];exact Ret.some rfl)
  by_cases h35:n=35
  ·rw[bU (by omega),bn,show mvB n=true from decide_eq_true (by omega)]
   exact Ret.some rfl
  rw[aP (by omega),aL]
  refine Ret.bnd (Q:=fun y=>y=Sum.inl (((n:Int),(mvB n,())),exT g rip fl m x)) ?_ (by rintro _ rfl;rw[aE];exact Ret.some rfl)
  by_cases h36:n=36
  ·rw[bU (by omega),bn,show mvB n=true from decide_eq_true (by omega)]
   exact Ret.some rfl
  rw[aP (by omega),aL]
  refine Ret.bnd (Q:=fun y=>y=Sum.inl (((n:Int),(mvB n,())),exT g rip fl m x)) ?_ (by rintro _ rfl;rw[aE];exact Ret.some rfl)
  by_cases h39:n=39
  ·rw[bU (by omega),bn,show mvB n=true from decide_eq_true (by omega)]
   exact Ret.some rfl
  rw[aP (by omega),aL]
  rw[show eqI (n:Int) 40=mvB n from by unfold eqI;unfold mvB;rw[Bool.eq_iff_iff,decide_eq_true_eq,decide_eq_true_eq];omega]
  exact Ret.some rfl
 rintro _ rfl
 rw[aE]
 dsimp only[d6,p6,exT]
 rw[hxop]
 refine Ret.bnd (Q:=fun y=>y=Sum.inl ((),(((g,(rip,(fl,()))):List Int×Int×Int×Unit),((m,()),((([]:List Int),(0,(0,()))),((),((g',(rip',(fl',(aF .i64 rip x.len,(c',()))))),(m',(l',()))))))))) ?_ ?_
 ·cases hmv:mvB n with
  |true=>
   obtain⟨rfl,rfl,r⟩:=k1 hmv
   rw[bn,r,af]
   exact Ret.some rfl
  |false=>
   rw[aL]
   refine Ret.bnd (Q:=fun y=>y=Sum.inl (((n:Int),(wdB n,())),exT g rip fl m x)) ?_ ?_
   ·by_cases h13:n=13
    ·rw[bU (by omega),bn,show wdB n=true from decide_eq_true (by omega)]
     exact Ret.some rfl
    rw[aP (by omega),aL]
    refine Ret.bnd (Q:=fun y=>y=Sum.inl (((n:Int),(wdB n,())),exT g rip fl m x)) ?_ (by rintro _ rfl;rw[aE];exact Ret.some rfl)
    by_cases h14:n=14
    ·rw[bU (by omega),bn,show wdB n=true from decide_eq_true (by omega)]
     exact Ret.some rfl
    rw[aP (by omega),aL]
    refine Ret.bnd (Q:=fun y=>y=Sum.inl (((n:Int),(wdB n,())),exT g rip fl m x)) ?_ (by rintro _ rfl;rw[aE];exact Ret.some rfl)
    by_cases h15:n=15
    ·rw[bU (by omega),bn,show wdB n=true from decide_eq_true (by omega)]
     exact Ret.some rfl
    rw[aP (by omega),aL]
    rw[show eqI (n:Int) 16=wdB n from by unfold eqI;unfold wdB;rw[Bool.eq_iff_iff,decide_eq_true_eq,decide_eq_true_eq];omega]
    exact Ret.some rfl
   rintro _ rfl
   rw[aE]
   dsimp only[d6,p6,exT]
   rw[hxop]
   refine Ret.bnd (Q:=fun y=>y=Sum.inl ((),(((g,(rip,(fl,()))):List Int×Int×Int×Unit),((m,()),((([]:List Int),(0,(0,()))),((),((g',(rip',(fl',(aF .i64 rip x.len,(c',()))))),(m',(l',()))))))))) ?_ (by rintro _ rfl;rw[aE];exact Ret.some rfl)
   cases hwd:wdB n with
   |true=>
    obtain⟨rfl,r⟩:=k2 hmv hwd
    rw[bn,r,af]
    exact Ret.some rfl
   |false=>
    rw[aL]
    refine Ret.bnd (Q:=fun y=>y=Sum.inl ((fwB n,()),exT g rip fl m x)) ?_ ?_
    ·by_cases h29:n=29
     ·rw[bU (by omega),bn,show fwB n=true from decide_eq_true (by omega)]
      exact Ret.some rfl
     rw[aP (by omega),aL]
     refine Ret.bnd (Q:=fun y=>y=Sum.inl ((fwB n,()),exT g rip fl m x)) ?_ (by rintro _ rfl;rw[aE];exact Ret.some rfl)
     by_cases h30:n=30
     ·rw[bU (by omega),bn,show fwB n=true from decide_eq_true (by omega)]
      exact Ret.some rfl
     rw[aP (by omega),aL]
     refine Ret.bnd (Q:=fun y=>y=Sum.inl ((fwB n,()),exT g rip fl m x)) ?_ (by rintro _ rfl;rw[aE];exact Ret.some rfl)
     by_cases h31:n=31
     ·rw[bU (by omega),bn,show fwB n=true from decide_eq_true (by omega)]
      exact Ret.some rfl
     rw[aP (by omega),aL]
     refine Ret.bnd (Q:=fun y=>y=Sum.inl ((fwB n,()),exT g rip fl m x)) ?_ (by rintro _ rfl;rw[aE];exact Ret.some rfl)
     by_cases h34:n=34
     ·rw[bU (by omega),bn,show fwB n=true from decide_eq_true (by omega)]
      exact Ret.some rfl
     rw[aP (by omega),aL]
     refine Ret.bnd (Q:=fun y=>y=Sum.inl ((fwB n,()),exT g rip fl m x)) ?_ (by rintro _ rfl;rw[aE];exact Ret.some rfl)
     by_cases h32:n=32
     ·rw[bU (by omega),bn,show fwB n=true from decide_eq_true (by omega)]
      exact Ret.some rfl
     rw[aP (by omega),aL]
     refine Ret.bnd (Q:=fun y=>y=Sum.inl ((fwB n,()),exT g rip fl m x)) ?_ (by rintro _ rfl;rw[aE];exact Ret.some rfl)
     by_cases h33:n=33
     ·rw[bU (by omega),bn,show fwB n=true from decide_eq_true (by omega)]
      exact Ret.some rfl
     rw[aP (by omega),aL]
     refine Ret.bnd (Q:=fun y=>y=Sum.inl ((fwB n,()),exT g rip fl m x)) ?_ (by rintro _ rfl;rw[aE];exact Ret.some rfl)
     by_cases h41:n=41
     ·rw[bU (by omega),bn,show fwB n=true from decide_eq_true (by omega)]
      exact Ret.some rfl
     rw[aP (by omega),aL]
     refine Ret.bnd (Q:=fun y=>y=Sum.inl ((fwB n,()),exT g rip fl m x)) ?_ (by rintro _ rfl;rw[aE];exact Ret.some rfl)
     by_cases h42:n=42
     ·rw[bU (by omega),bn,show fwB n=true from decide_eq_true (by omega)]
      exact Ret.some rfl
     rw[aP (by omega),aL]
     refine Ret.bnd (Q:=fun y=>y=Sum.inl ((fwB n,()),exT g rip fl m x)) ?_ (by rintro _ rfl;rw[aE];exact Ret.some rfl)
     by_cases h38:n=38
     ·rw[bU (by omega),bn,show fwB n=true from decide_eq_true (by omega)]
      exact Ret.some rfl
     rw[aP (by omega),aL]
     refine Ret.bnd (Q:=fun y=>y=Sum.inl ((fwB n,()),exT g rip fl m x)) ?_ (by rintro _ rfl;rw[aE];exact Ret.some rfl)
     by_cases h43:n=43
     ·rw[bU (by omega),bn,show fwB n=true from decide_eq_true (by omega)]
      exact Ret.some rfl
     rw[aP (by omega),aL]
     refine Ret.bnd (Q:=fun y=>y=Sum.inl ((fwB n,()),exT g rip fl m x)) ?_ (by rintro _ rfl;rw[aE];exact Ret.some rfl)
     by_cases h44:n=44
     ·rw[bU (by omega),bn,show fwB n=true from decide_eq_true (by omega)]
      exact Ret.some rfl
     rw[aP (by omega),aL]
     rw[show eqI (n:Int) 37=fwB n from by unfold eqI;unfold fwB;rw[Bool.eq_iff_iff,decide_eq_true_eq,decide_eq_true_eq];omega]
     exact Ret.some rfl
    rintro _ rfl
    rw[aE]
    dsimp only[d6,p6,exT]
    rw[hxop]
    refine Ret.bnd (Q:=fun y=>y=Sum.inl ((),(((g,(rip,(fl,()))):List Int×Int×Int×Unit),((m,()),((([]:List Int),(0,(0,()))),((),((g',(rip',(fl',(aF .i64 rip x.len,(c',()))))),(m',(l',()))))))))) ?_ (by rintro _ rfl;rw[aE];exact Ret.some rfl)
    cases hfw:fwB n with
    |true=>
     obtain⟨rfl,r⟩:=k3 hmv hwd hfw
     rw[bn,r,af]
     exact Ret.some rfl
    |false=>
     obtain⟨rfl,r⟩:=k4 hmv hwd hfw
     rw[aL,r,af]
     exact Ret.some rfl
 rintro _ rfl
 rw[aE]
 dsimp only[d5,p5,d6,d7]
 unfold exR
 dsimp only
 by_cases hc:c'=0
 ·rw[hc,bU rfl,bP,aL,if_neg (by decide)]
  exact Ret.some rfl
 ·rw[aP hc,dO,bn,if_pos hc,pp m (by have:=hm.len;omega),af]
  exact Ret.some rfl
end
set_option synthInstance.maxSize 4000
set_option synthInstance.maxHeartbeats 400000
noncomputable section
def Hd (A:Int)(l:List Acc):Prop:=∀a r,l=a::r→a.addr=A
theorem Hd.nil (A:Int):Hd A []:=fun _ _ h=>by cases h
theorem Hd.snoc {A:Int}{l:List Acc}(h:Hd A l){x:Acc}(hx:l=[]→x.addr=A):Hd A (l++[x]):=by
 intro a r e
 cases l with
 |nil=>cases e;exact hx rfl
 |cons b t=>cases e;exact h _ _ rfl
theorem Hd.ld {A:Int}{s:MS}(h:Hd A s.l){a:Int}(ha:s.l=[]→a=A)(n:Nat):Hd A (s.ld a n).2.l:=by
 unfold MS.ld
 split
 ·exact h
 ·exact h.snoc ha
theorem Hd.st {A:Int}{s:MS}(h:Hd A s.l){a:Int}(ha:s.l=[]→a=A)(n:Nat)(v:Int):Hd A (s.st a n v).l:=by
 unfold MS.st
 split
 ·exact h
 ·exact h.snoc ha
theorem Hd.pu {A:Int}{s:MS}(h:Hd A s.l)(hn:s.l≠[])(v:Int):Hd A (s.pu v).l:=by
 unfold MS.pu MS.st
 dsimp only
 split
 ·exact h
 ·exact h.snoc fun e=>absurd e hn
theorem Hd.rd {A:Int}{s:MS}(h:Hd A s.l){nx:Int}{o:Opd}(ho:s.l=[]→o.kind=2→gd s.g nx o=A)(n:Nat):Hd A (s.rd nx o n).2.l:=by
 unfold MS.rd
 split
 ·exact h
 ·split
  ·rename_i h2
   exact h.ld (fun e=>ho e h2) n
  ·exact h
theorem Hd.wr {A:Int}{s:MS}(h:Hd A s.l){nx:Int}{o:Opd}(ho:s.l=[]→o.kind=2→gd s.g nx o=A)(n:Nat)(v:Int):Hd A (s.wr nx o n v).l:=by
 unfold MS.wr
 split
 ·rename_i h2
  exact h.st (fun e=>ho e h2) n v
 ·exact h
theorem rd_ne {s:MS}(hc:s.code=0){nx:Int}{o:Opd}(ho:o.kind=2)(n:Nat):(s.rd nx o n).2.l≠[]:=by
 unfold MS.rd MS.ld
 rw[if_neg (by omega),if_pos ho,if_neg (by simpa using hc)]
 simp
theorem xp {s:MS}{nx:Int}{o:Opd}(ho:o.kind≠2)(n:Nat):(s.rd nx o n).2=s:=by
 unfold MS.rd
 rw[if_neg ho]
 split<;>rfl
theorem vE {s:MS}{nx:Int}{o:Opd}(ho:o.kind≠2)(n:Nat)(v:Int):(s.wr nx o n v).l=s.l:=by
 unfold MS.wr
 rw[if_neg ho]
def kindU (n:Nat)(kd ks:Int):Bool:=
 decide ((kd=2→ks≠2)∧(13≤n∧n≤16∨n=29∨n=31∨n=32→kd=0)∧(n=33∨n=34∨n=37∨n=38∨39≤n→kd=0∧ks≠2)∧(n=35→ks=0)∧(n=33→ks=3))
theorem wG:∀n,n<45→1≤n→∀q∈prK n,q.length=2∧q.getD 0 0∈mL∧q.getD 1 0∈mL∧kindU n (kOf (q.getD 0 0)) (kOf (q.getD 1 0))=true:=by decide +kernel
theorem y6 {n:Nat}(h1:1≤n)(h2:n<45){kd ks:Int}(h:(prK n).any (fW kd ks)=true):kindU n kd ks=true:=by
 rw[List.any_eq_true]at h
 obtain⟨q,hq,hp⟩:=h
 obtain⟨l,a,b,t⟩:=wG n h2 h1 q hq
 match q,l with
 |[c,d],_=>
  simp only[fW,Bool.and_eq_true,decide_eq_true_eq]at hp
  rw[tR (c:=c) a hp.1,tR (c:=d) b hp.2]
  exact t
set_option maxHeartbeats 2000000 in
theorem yS {g:List Int}{rip fl:Int}{m:List Page}{x:Ins}{n z:Nat}(hx:ExV x n)(hu:kindU n x.dst.kind x.src.kind=true)(h25:n≠25)(h30:n≠30){o:Opd}
  (ho:x.dst.kind=2∧o=x.dst∨x.dst.kind≠2∧x.src.kind=2∧o=x.src):Hd (gd g (aF .i64 rip x.len) o) (exM g rip fl m x n z).1.l:=by
 obtain⟨u1,u2,u3,u4,u5⟩:=of_decide_eq_true hu
 have h0:Hd (gd g (aF .i64 rip x.len) o) (MS.mk g m 0 []).l:=Hd.nil _
 have n1:=hx.n1
 have n2:=hx.n2
 have dst_first:∀k,(x.dst.kind=2→((MS.mk g m 0 []).rd (aF .i64 rip x.len) x.dst k).2.l≠[]):=fun k h=>rd_ne rfl h k
 have adr_d:x.dst.kind=2→gd g (aF .i64 rip x.len) x.dst=gd g (aF .i64 rip x.len) o:=fun h=>by
  rcases ho with ⟨_,rfl⟩|⟨h',_⟩
  ·rfl
  ·exact absurd h h'
 have adr_s:x.dst.kind≠2→x.src.kind=2→gd g (aF .i64 rip x.len) x.src=gd g (aF .i64 rip x.len) o:=fun h _=>by
  rcases ho with ⟨h',_⟩|⟨_,_,rfl⟩
  ·exact absurd h' h
  ·rfl
 have rdD:∀k,Hd (gd g (aF .i64 rip x.len) o) ((MS.mk g m 0 []).rd (aF .i64 rip x.len) x.dst k).2.l:=fun k=>h0.rd (fun _ h=>adr_d h) k
 have rdS:x.dst.kind≠2→∀k,Hd (gd g (aF .i64 rip x.len) o) ((MS.mk g m 0 []).rd (aF .i64 rip x.len) x.src k).2.l:=fun h k=>h0.rd (fun _ h2=>adr_s h h2) k
 unfold exM
 dsimp only
 split
 ·
  rename_i hm
  have hn:=of_decide_eq_true hm
  unfold MS.move
  dsimp only
  by_cases h9:n=9
  ·rw[if_pos h9]
   by_cases hd:x.dst.kind=2
   ·rw[xp (u1 hd)]
    exact h0.wr (fun _ h=>adr_d h) _ _
   ·rw[vE hd]
    exact rdS hd _
  rw[if_neg h9]
  by_cases h28:n=28
  ·rw[if_pos h28]
   have hs1:=hx.kd.2.1 h28
   have hd:x.dst.kind=2:=by rcases ho with h|h<;>omega
   rw[vE (by omega),xp (by omega)]
   exact(rdD z).wr (fun e=>absurd e (dst_first z hd)) _ _
  rw[if_neg h28,if_neg h25]
  by_cases h26:n=26
  ·rw[if_pos h26]
   have hd:=(hx.kd.2.2.2.2.1 (by omega)).1
   rw[vE (by omega)]
   exact rdS (by omega) _
  rw[if_neg h26]
  by_cases h27:n=27
  ·rw[if_pos h27]
   have hd:=(hx.kd.2.2.2.2.1 (by omega)).1
   rw[vE (by omega)]
   exact rdS (by omega) _
  rw[if_neg h27]
  by_cases h35:n=35
  ·rw[if_pos h35]
   exact h0.wr (fun _ h=>adr_d h) _ _
  rw[if_neg h35]
  by_cases h36:n=36
  ·rw[if_pos h36]
   have hd:=(hx.kd.2.2.2.2.1 (by omega)).1
   rw[vE (by omega)]
   split
   ·exact rdS (by omega) _
   ·rw[xp (by omega)]
    exact rdS (by omega) _
  rw[if_neg h36]
  split
  ·exact h0
  ·split<;>exact h0
 split
 ·
  rename_i hm hw
  have hn:=of_decide_eq_true hw
  have hd:=u2 (by omega)
  unfold MS.wide
  dsimp only
  split<;>exact rdS (by omega) _
 split
 ·
  rename_i hm hw hf
  have hn:=of_decide_eq_true hf
  have hc:n=29∨n=31∨n=32:=by
   rcases ho with h|h
   ·by_cases hh:n=29∨n=31∨n=32
    ·exact hh
    ·have:=u3 (by omega);omega
   ·by_cases hh:n=29∨n=31∨n=32
    ·exact hh
    ·have:=u3 (by omega);omega
  have hd:=u2 (by omega)
  have hs2:x.src.kind=2:=by rcases ho with h|h<;>omega
  have hne:∀k,((MS.mk g m 0 []).rd (aF .i64 rip x.len) x.src k).2.l≠[]:=fun k=>rd_ne rfl hs2 k
  have hgo:(MS.mk g m 0 []).go (aF .i64 rip x.len) x=(MS.mk g m 0 []).rd (aF .i64 rip x.len) x.src 8:=by unfold MS.go;rw[if_neg (by omega)]
  unfold MS.flow
  rcases hc with h|h|h
  ·rw[if_pos h]
   exact(rdS (by omega) 8).pu (hne 8) _
  ·rw[if_neg (by omega),if_neg (by omega),if_pos h,hgo]
   exact(rdS (by omega) 8).pu (hne 8) _
  ·rw[if_neg (by omega),if_neg (by omega),if_neg (by omega),if_neg (by omega),if_pos h,hgo]
   exact rdS (by omega) 8
 ·
  unfold MS.reck MS.rd0
  dsimp only
  by_cases hd:x.dst.kind=2
  ·have key:Hd (gd g (aF .i64 rip x.len) o) (if x.src.kind≠0 then((MS.mk g m 0 []).rd (aF .i64 rip x.len) x.dst z).2.rd (aF .i64 rip x.len) x.src (ya n z)else(0,((MS.mk g m 0 []).rd (aF .i64 rip x.len) x.dst z).2)).2.l∧(if x.src.kind≠0 then((MS.mk g m 0 []).rd (aF .i64 rip x.len) x.dst z).2.rd (aF .i64 rip x.len) x.src (ya n z)else(0,((MS.mk g m 0 []).rd (aF .i64 rip x.len) x.dst z).2)).2.l≠[]:=by
    split
    ·rw[xp (u1 hd)]
     exact⟨rdD z,dst_first z hd⟩
    ·exact⟨rdD z,dst_first z hd⟩
   split
   ·exact key.1.wr (fun e=>absurd e key.2) _ _
   ·exact key.1
  ·have hs2:x.src.kind=2:=by rcases ho with h|h<;>omega
   rw[xp hd,if_pos (show x.src.kind≠0 by omega)]
   split
   ·rw[vE hd]
    exact rdS hd _
   ·exact rdS hd _
end
structure Src (code:List Int)(k:Int)(s:List Int×(Int×(Int×Unit))):Prop where
 code:s.1=code
 at0:0≤s.2.1
 atk:s.2.1≤k
 sd0:0≤s.2.2.1
 sd1:s.2.2.1<2147483648
def fk (code:List Int):Prop:=(∀b∈code,0≤b∧b≤255)∧code.length≤1048576
theorem Src.mono {code:List Int}{k j:Int}{s:List Int×(Int×(Int×Unit))}(h:Src code k s)(hk:k≤j):Src code j s:=⟨h.code,h.at0,Int.le_trans h.atk hk,h.sd0,h.sd1⟩
theorem lU {code:List Int}(_hc:fk code):Ret (bE ((code,()),())) fun r=>Src code 0 r.2.1:=by
 unfold bE
 dsimp only
 refine Ret.some ⟨rfl,by simp,by simp,?_,?_⟩
 ·dsimp only;rw[cQ,dZ (by omega)];omega
 ·dsimp only;rw[cQ,dZ (by omega)];omega
theorem gk {code:List Int}(hc:fk code){k:Int}(hk:k≤4611686018427387904){s:List Int×(Int×(Int×Unit))}(h:Src code k s):
  Ret (aJ ((),(s,()))) fun r=>0≤r.1∧r.1≤255∧Src code (k+1) r.2.1:=by
 obtain⟨c,at_,sd,_⟩:=s
 obtain⟨h1,h2,h3,h4,h5⟩:=h
 dsimp only at h1 h2 h3 h4 h5
 subst h1
 unfold aJ
 dsimp only
 rw[bS (by omega) (by omega)]
 refine Ret.br (fun hl=>?_) fun hl=>?_
 ·rw[tU,cQ]at hl
  have e1:aT .i64 (at_+1) 1=at_:=by rw[gb (by omega) (by omega)];omega
  rw[e1]
  obtain⟨n,rfl⟩:=Int.eq_ofNat_of_zero_le h2
  have hn:n<c.length:=by omega
  have hb:=hc.1 _ (List.getElem_mem hn)
  refine Ret.need (cj h2 (by rw[cQ];omega)) (Ret.need (cj h2 (by rw[cQ];omega)) ?_)
  rw[iL hn,lh (by omega) (by omega),cx (by omega) (by omega),bS (a:=sd*31) (by omega) (by omega),bS (by omega) (by omega),dZ (by omega)]
  exact Ret.some ⟨hb.1,hb.2,rfl,by dsimp only;omega,by dsimp only;omega,by dsimp only;omega,by dsimp only;omega⟩
 ·refine Ret.br (fun hl2=>Ret.some ⟨by dsimp only;omega,by dsimp only;omega,rfl,by dsimp only;omega,by dsimp only;omega,h4,h5⟩) fun hl2=>?_
  rw[cx (by omega) (by omega),bS (by omega) (by omega),dZ (a:=sd*1103515245+12345) (by omega),mB (by omega) (by omega) (by omega),dZ (by omega)]
  exact Ret.some ⟨by dsimp only;omega,by dsimp only;omega,rfl,by dsimp only;omega,by dsimp only;omega,by dsimp only;omega,by dsimp only;omega⟩
theorem gW {code:List Int}(hc:fk code){k:Int}(hk:k≤4611686018427387000){s:List Int×(Int×(Int×Unit))}(h:Src code k s)(n:Int)(hn:1≤n):
  Ret (ae ((n,()),(s,()))) fun r=>0≤r.1∧r.1<n∧Src code (k+3) r.2.1:=by
 unfold ae
 dsimp only
 have hs:∀ {j} {s':List Int×(Int×(Int×Unit))},Src code j s'→(s.1,s'.2)=s':=fun h'=>by rw[h.code,←h'.code]
 refine Ret.br (fun h1=>?_) fun h1=>Ret.br (fun h2=>?_) fun h2=>?_
 ·rw[tU]at h1
  exact Ret.some ⟨by dsimp only;omega,by dsimp only;omega,h.mono (by omega)⟩
 ·refine Ret.bnd (gk hc (by omega) h) fun r hr=>?_
  obtain⟨a,b,c⟩:=hr
  refine Ret.need (by rw[aP (by rw[le_nf]at h1;omega)];rfl) ?_
  rw[le_nf]at h1
  rw[dZ a]
  have e1:=Int.emod_nonneg r.1 (show n≠0 by omega)
  have e2:=Int.emod_lt_of_pos r.1 (show 0<n by omega)
  refine Ret.some ⟨e1,e2,?_⟩
  dsimp only;rw[hs c];exact c.mono (by omega)
 ·refine Ret.bnd (gk hc (by omega) h) fun r hr=>?_
  obtain⟨a,b,c⟩:=hr
  rw[hs c]
  refine Ret.bnd (gk hc (by omega) c) fun r2 hr2=>?_
  obtain⟨a2,b2,c2⟩:=hr2
  rw[hs c2]
  refine Ret.bnd (gk hc (by omega) c2) fun r3 hr3=>?_
  obtain⟨a3,b3,c3⟩:=hr3
  rw[le_nf]at h1
  refine Ret.need (by rw[aP (by omega)];rfl) ?_
  rw[cx (by omega) (by omega),cx (by omega) (by omega),bS (a:=r.1*65536) (by omega) (by omega),bS (by omega) (by omega),dZ (by omega)]
  have e1:=Int.emod_nonneg (r.1*65536+r2.1*256+r3.1) (show n≠0 by omega)
  have e2:=Int.emod_lt_of_pos (r.1*65536+r2.1*256+r3.1) (show 0<n by omega)
  refine Ret.some ⟨e1,e2,?_⟩
  dsimp only;rw[hs c3];exact c3.mono (by omega)
abbrev ot:=List Int×(Int×(Int×Unit))
theorem Src.put {code:List Int}{k j:Int}{s s':List Int×(Int×(Int×Unit))}(h:Src code k s)(h':Src code j s'):(s.1,s'.2)=s':=by rw[h.code,←h'.code]
theorem mE {code:List Int}(hc:fk code){k:Int}(hk:k≤4611686018427387000){s:List Int×(Int×(Int×Unit))}(h:Src code k s):
  Ret (aS ((),(s,()))) fun r=>0≤r.1∧r.1<4294967296∧Src code (k+4) r.2.1:=by
 unfold aS
 dsimp only
 refine Ret.bnd (gk hc (by omega) h) fun r1 hr1=>?_
 obtain⟨a1,b1,c1⟩:=hr1
 rw[h.put c1]
 refine Ret.bnd (gk hc (by omega) c1) fun r2 hr2=>?_
 obtain⟨a2,b2,c2⟩:=hr2
 rw[h.put c2]
 refine Ret.bnd (gk hc (by omega) c2) fun r3 hr3=>?_
 obtain⟨a3,b3,c3⟩:=hr3
 rw[h.put c3]
 refine Ret.bnd (gk hc (by omega) c3) fun r4 hr4=>?_
 obtain⟨a4,b4,c4⟩:=hr4
 rw[h.put c4,cx (by omega) (by omega),cx (by omega) (by omega),cx (by omega) (by omega),bS (a:=r1.1) (by omega) (by omega),bS (a:=r1.1+256*r2.1) (by omega) (by omega),bS (by omega) (by omega)]
 exact Ret.some ⟨by dsimp only;omega,by dsimp only;omega,c4.mono (by omega)⟩
theorem gq {P:Int→Prop}{xs:List Int}{i:Int}{d:Int}(h0:0≤i)(h1:i<(xs.length:Int))(h:∀x∈xs,P x):P (aQ xs i d):=by
 obtain⟨hi,e⟩:=yM (d:=d) h0 h1
 rw[e];exact h _ (List.getElem_mem hi)
theorem zZ {x:Int}(h:uI .u x):0≤x∧x≤255:=by
 obtain⟨⟨n,e,w⟩,_⟩:=h
 cases e
 simp only[Lit.wf,Bool.and_eq_true,decide_eq_true_eq]at w
 simp only[IntKind.min,IntKind.max,IntKind.signed,IntKind.bits]at w
 simp at w
 omega
theorem ct {code:List Int}(hc:fk code){k:Int}(hk:k≤4611686018427387000){s s0:List Int×(Int×(Int×Unit))}(h0:s0.1=code)(h:Src code k s)(n:Int)(hn:1≤n):
  Ret (ae ((n,()),(s,()))) fun r=>0≤r.1∧r.1<n∧Src code (k+3) (s0.1,r.2.1.2):=
 (gW hc hk h n hn).mono fun r hr=>⟨hr.1,hr.2.1,by have:=hr.2.2;rw[show(s0.1,r.2.1.2)=r.2.1 from by rw[h0,←this.code]];exact this⟩
theorem oA {code:List Int}(hc:fk code){k:Int}(hk:k≤4611686018427387000){s:List Int×(Int×(Int×Unit))}(h:Src code k s)(n:Int)(hn:1≤n):
  Ret (ak ((n,()),(s,()))) fun r=>Src code (k+3) r.2.1:=by
 unfold ak
 refine Ret.bnd (gW hc hk h n hn) fun r hr=>?_
 refine Ret.some ?_
 dsimp only
 have:=hr.2.2
 rwa [show(s.1,r.2.1.2)=r.2.1 from by rw[h.code,←this.code]]
theorem ug {code:List Int}(hc:fk code){k:Int}(hk:k≤4611686018427000000){s:List Int×(Int×(Int×Unit))}(h:Src code k s)(n:Nat)(hn:n≤100000):
  Ret (bA (((n:Int),()),(s,()))) fun r=>r.1.length=n∧Src code (k+n) r.2.1:=by
 unfold bA
 dsimp only
 refine Ret.iter (fun x=>x.1.1=(n:Int)∧∃j:Nat,j≤n∧x.1.2.1=(j:Int)∧x.2.2.1.length=j∧Src code (k+j) x.2.1) (fun x=>n-x.1.2.1.toNat) ?_ F _ ⟨rfl,0,by omega,by simp,by simp,by simpa using h⟩ (by unfold F;dsimp only;omega)
 rintro⟨⟨m,i,_⟩,s',u,_⟩ rec ⟨h1,j,hj,h2,h3,h4⟩ hrec
 dsimp only at h1 h2 h3 h4 hrec⊢
 subst h1 h2
 refine Ret.br (fun hl=>?_) fun hl=>?_
 ·rw[mb]at hl
  refine Ret.bnd (gk hc (by omega) h4) fun r hr=>?_
  obtain⟨a,b,c⟩:=hr
  rw[show(s'.1,r.2.1.2)=r.2.1 from by rw[h4.code,←c.code]]
  refine Ret.need (iK (by simp;omega)) ?_
  rw[bS (by omega) (by omega)]
  exact hrec _ ⟨rfl,j+1,by omega,by dsimp only;omega,by dsimp only;simp[d9,h3],by dsimp only;exact c.mono (by omega)⟩ (by dsimp only;omega)
 ·rw[zh]at hl
  have:j=n:=by omega
  subst this
  exact Ret.some ⟨by dsimp only;simp[iU,h3],h4⟩
def PermD (m:List Page):Prop:=∀i,i<m.length→(pgN m i).perm=1∨(pgN m i).perm=3∨(pgN m i).perm=4∨(pgN m i).perm=5
theorem odd_ret {code:List Int}(hc:fk code){k:Int}(hk:k≤4611686018427387000){s:List Int×(Int×(Int×Unit))}(h:Src code k s):
  Ret (cX ((),(s,()))) fun r=>I64 r.1∧Src code (k+3) r.2.1:=by
 unfold cX
 dsimp only
 refine Ret.bnd (gW hc hk h 15 (by decide)) fun r hr=>?_
 obtain⟨a,b,c⟩:=hr
 rw[h.put c]
 refine Ret.need (cj a b) (Ret.some ⟨?_,c⟩)
 dsimp only
 refine gq a (by simpa using b) fun x hx=>?_
 simp only[List.mem_cons,List.not_mem_nil,or_false]at hx
 unfold I64
 omega
theorem i64_of {n:Int}(h: -9223372036854775808≤n)(k:n<9223372036854775808):I64 n:=⟨h,k⟩
theorem zP {code:List Int}(hc:fk code){k:Int}(hk:k≤4611686018427386000){s:List Int×(Int×(Int×Unit))}(h:Src code k s):
  Ret (bB ((),(s,()))) fun r=>I64 r.1∧Src code (k+11) r.2.1:=by
 unfold bB
 dsimp only
 refine Ret.bnd (gW hc (by omega) h 8 (by decide)) fun r hr=>?_
 obtain⟨a,b,c⟩:=hr
 rw[h.put c]
 refine Ret.br (fun _=>?_) fun _=>Ret.br (fun _=>?_) fun _=>Ret.br (fun _=>?_) fun _=>Ret.br (fun _=>?_) fun _=>Ret.br (fun _=>?_) fun _=>Ret.br (fun _=>?_) fun _=>?_
 ·refine Ret.bnd (mE hc (by omega) c) fun r1 hr1=>?_
  obtain⟨a1,b1,c1⟩:=hr1
  rw[h.put c1]
  refine Ret.bnd (mE hc (by omega) c1) fun r2 hr2=>?_
  obtain⟨a2,b2,c2⟩:=hr2
  rw[h.put c2]
  exact Ret.some ⟨ax _,c2.mono (by omega)⟩
 ·refine Ret.bnd (odd_ret hc (by omega) c) fun r1 hr1=>?_
  obtain⟨a1,c1⟩:=hr1
  rw[h.put c1]
  exact Ret.some ⟨a1,c1.mono (by omega)⟩
 ·refine Ret.bnd (gW hc (by omega) c 300 (by decide)) fun r1 hr1=>?_
  obtain⟨a1,b1,c1⟩:=hr1
  rw[h.put c1]
  exact Ret.some ⟨ax _,c1.mono (by omega)⟩
 ·refine Ret.bnd (mE hc (by omega) c) fun r1 hr1=>?_
  obtain⟨a1,b1,c1⟩:=hr1
  rw[h.put c1]
  exact Ret.some ⟨ax _,c1.mono (by omega)⟩
 ·refine Ret.bnd (gW hc (by omega) c 64 (by decide)) fun r1 hr1=>?_
  obtain⟨a1,b1,c1⟩:=hr1
  rw[h.put c1]
  rw[iA (by omega) (by omega)]
  exact Ret.need (fT a1) (Ret.some ⟨ax _,c1.mono (by omega)⟩)
 ·refine Ret.bnd (gW hc (by omega) c 63 (by decide)) fun r1 hr1=>?_
  obtain⟨a1,b1,c1⟩:=hr1
  rw[h.put c1]
  rw[iA (by omega) (by omega)]
  exact Ret.need (fT a1) (Ret.some ⟨ax _,c1.mono (by omega)⟩)
 ·refine Ret.bnd (gW hc (by omega) c 300 (by decide)) fun r1 hr1=>?_
  obtain⟨a1,b1,c1⟩:=hr1
  rw[h.put c1]
  exact Ret.some ⟨i64_of (by dsimp only;omega) (by dsimp only;omega),c1.mono (by omega)⟩
def fw:List (Int×Int):=[(4096,3),(16640,4),(16896,5),(17152,5),(17408,3),(17664,3),(17920,1),(20224,3)]
structure Drawn (n:Nat)(ps:List Page):Prop where
 sub:(ps.map fun p=>(p.base,p.perm)).Sublist (fw.take n)
 dat:∀p∈ps,p.data.length=256
theorem Drawn.memT {ps:List Page}(h:Drawn 8 ps):MemT ps∧PermD ps:=by
 have hs:(ps.map fun p=>(p.base,p.perm)).Sublist fw:=h.sub
 have hl:ps.length≤8:=by have:=hs.length_le;simpa[fw]using this
 have hmem:∀i,i<ps.length→((pgN ps i).base,(pgN ps i).perm)∈fw:=fun i hi=>hs.subset (List.mem_map.2 ⟨_,by rw[lO hi];exact List.getElem_mem hi,rfl⟩)
 have hp:fw.Pairwise fun a b=>a.1<b.1:=by unfold fw;simp
 have hp':=hp.sublist hs
 rw[List.pairwise_map]at hp'
 refine⟨⟨by omega,fun i hi=>?_,fun i hi=>?_⟩,fun i hi=>?_⟩
 ·have:=hmem i hi
  have hd:=h.dat (pgN ps i) (by rw[lO hi];exact List.getElem_mem hi)
  simp only[fw,List.mem_cons,List.not_mem_nil,or_false,Prod.mk.injEq]at this
  omega
 ·rw[lO hi,lO (by omega:i<ps.length)]
  exact List.pairwise_iff_getElem.1 hp' i (i+1) (by omega) hi (by omega)
 ·have:=hmem i hi
  simp only[fw,List.mem_cons,List.not_mem_nil,or_false,Prod.mk.injEq]at this
  omega
def gE:List Page:=fw.map fun p=>Page.mk p.1 p.2 []
theorem Drawn.skip {n:Nat}{ps:List Page}(h:Drawn n ps):Drawn (n+1) ps:=
 ⟨h.sub.trans (List.take_sublist_take_left (Nat.le_succ n)),h.dat⟩
theorem Drawn.more {n:Nat}{ps:List Page}(h:Drawn n ps)(hn:n<8)(d:List UInt8)(hd:d.length=256):Drawn (n+1) (ps++[Page.mk (pgN gE n).base (pgN gE n).perm d]):=by
 refine⟨?_,fun p hp=>?_⟩
 ·have hn':n<fw.length:=hn
  rw[List.map_append,←List.take_append_getElem hn']
  refine h.sub.append ?_
  have:pgN gE n=Page.mk fw[n].1 fw[n].2 []:=by rw[lO (by simp[gE];exact hn')];simp[gE]
  rw[this]
  exact List.Sublist.refl _
 ·rcases List.mem_append.1 hp with hp|hp
  ·exact h.dat p hp
  ·rw[List.mem_singleton]at hp;subst hp;exact hd
theorem vb {code:List Int}(hc:fk code){s:List Int×(Int×(Int×Unit))}(h:Src code 0 s):
  Ret (bO ((),(s,()))) fun r=>∃ps,r.1=(ps,())∧Drawn 8 ps:=by
 unfold bO
 dsimp only
 refine Ret.iter (fun x=>x.2.2.2.2.2.1=gE∧∃j:Nat,j≤8∧x.1.1=(j:Int)∧Drawn j x.2.2.2.2.1∧Src code (1000*j) x.2.1) (fun x=>8-x.1.1.toNat) ?_ F _ ⟨rfl,0,by omega,rfl,⟨List.Sublist.refl _,by simp⟩,by simpa using h⟩ (by unfold F;dsimp only;omega)
 rintro⟨⟨i,_⟩,s',_,_,ps,tab,_⟩ rec ⟨h1,j,hj,h2,h3,h4⟩ hrec
 dsimp only at h1 h2 h3 h4 hrec⊢
 subst h1 h2
 rw[show bW gE=8 from rfl]
 refine Ret.br (fun hl=>?_) fun hl=>?_
 ·rw[mb]at hl
  have hps:ps.length≤8:=by have:=h3.sub.length_le;simp[fw]at this;omega
  refine Ret.bnd (oA hc (by omega) h4 9 (by decide)) fun r hr=>?_
  rw[h4.put hr,bS (by omega) (by omega)]
  refine Ret.br (fun _=>?_) fun _=>?_
  ·exact hrec _ ⟨rfl,j+1,by omega,by dsimp only;omega,h3.skip,hr.mono (by omega)⟩ (by dsimp only;omega)
  ·refine Ret.need (cj (by omega) hl) ?_
   refine Ret.bnd (show Ret (bA ((16,()),(r.2.1,()))) _ from ug hc (by omega) hr 16 (by decide)) fun r1 hr1=>?_
   obtain⟨l1,c1⟩:=hr1
   rw[h4.put c1]
   have lz:(iU (nZ 224 (aD .u))).length=224:=by unfold iU nZ;rw[List.length_map,List.length_replicate];rfl
   refine Ret.need (iK (by rw[lz,l1];decide)) ?_
   refine Ret.bnd (show Ret (bA ((16,()),(r1.2.1,()))) _ from ug hc (by omega) c1 16 (by decide)) fun r2 hr2=>?_
   obtain⟨l2,c2⟩:=hr2
   rw[h4.put c2]
   refine Ret.need (iK (by unfold d9;rw[List.length_append,lz,l1,l2];decide)) (Ret.need (iK (by simp;omega)) ?_)
   refine hrec _ ⟨rfl,j+1,by omega,by dsimp only;omega,?_,?_⟩ (by dsimp only;omega)
   ·dsimp only
    rw[tG]
    exact h3.more (by omega) _ (by unfold d9;rw[List.length_append,List.length_append,lz,l1,l2])
   ·exact c2.mono (by omega)
 ·rw[zh]at hl
  have:j=8:=by omega
  subst this
  exact Ret.some ⟨ps,rfl,h3⟩
theorem mG {code:List Int}(hc:fk code):Ret (bY ((code,()),())) fun r=>∃ps,r=((ps,()),())∧Drawn 8 ps:=by
 unfold bY
 refine Ret.bnd (lU hc) fun s hs=>?_
 refine Ret.bnd (show Ret (bO ((),s.2)) _ from vb hc hs) fun r hr=>?_
 obtain⟨ps,e,hd⟩:=hr
 exact Ret.some ⟨ps,by rw[e],hd⟩
theorem Src.at {code:List Int}{k:Int}{s s0:ot}(h0:s0.1=code)(h:Src code k s):Src code k (s0.1,s.2):=by
 rw[show((s0.1,s.2):ot)=s from by rw[h0,←h.code]];exact h
theorem e7 {code:List Int}(hc:fk code){k:Int}(hk:k≤4611686018427387000){s s0:ot}(h0:s0.1=code)(h:Src code k s)(n:Int)(hn:1≤n):
  Ret (ak ((n,()),(s,()))) fun r=>Src code (k+3) (s0.1,r.2.1.2):=(oA hc hk h n hn).mono fun _ hr=>hr.at h0
theorem Aw {code:List Int}(hc:fk code){k:Int}(hk:k≤4611686018427387000){s s0:ot}(h0:s0.1=code)(h:Src code k s):
  Ret (aS ((),(s,()))) fun r=>(0≤r.1∧r.1<4294967296)∧Src code (k+4) (s0.1,r.2.1.2):=(mE hc hk h).mono fun _ hr=>⟨⟨hr.1,hr.2.1⟩,hr.2.2.at h0⟩
theorem xQ {code:List Int}(hc:fk code){k:Int}(hk:k≤4611686018427386000){s s0:ot}(h0:s0.1=code)(h:Src code k s):
  Ret (bB ((),(s,()))) fun r=>I64 r.1∧Src code (k+11) (s0.1,r.2.1.2):=(zP hc hk h).mono fun _ hr=>⟨hr.1,hr.2.at h0⟩
theorem As {code:List Int}(hc:fk code){k:Int}(hk:k≤4611686018427386000){s s0:ot}(h0:s0.1=code)(h:Src code k s):
  Ret (bN ((),(s,()))) fun r=>(r.1=1∨r.1=2∨r.1=4∨r.1=8)∧Src code (k+3) (s0.1,r.2.1.2):=by
 unfold bN
 dsimp only
 refine Ret.bnd (ct hc (by omega) h0 h 4 (by decide)) fun r ⟨a,b,c⟩=>?_
 refine Ret.need (cj a b) (Ret.some ⟨?_,c⟩)
 dsimp only
 exact gq (P:=fun x=>x=1∨x=2∨x=4∨x=8) a (by simpa using b) (by simp)
abbrev OpT:=Int×(Int×(Int×(Int×(Int×(Int×(Int×Unit))))))
theorem ne_m1 {a:Int}(h:0≤a):a≠ -1:=by omega
def memT (o:OpT):Prop:=kF o.1 o.2.1 o.2.2.1 o.2.2.2.1 o.2.2.2.2.1 o.2.2.2.2.2.1 o.2.2.2.2.2.2.1
theorem wY {code:List Int}(hc:fk code){k:Int}(hk:k≤4611686018427385900){s s0:ot}(h0:s0.1=code)(h:Src code k s):
  Ret (bb ((),(s,()))) fun r=>memT r.1∧Src code (k+40) (s0.1,r.2.1.2):=by
 unfold bb
 dsimp only
 have hs:=h.code
 refine Ret.bnd (ct hc (by omega) hs h 16 (by decide)) fun r2 ⟨a2,b2,c2⟩=>?_
 refine Ret.bnd (ct hc (by omega) hs c2 256 (by decide)) fun r3 ⟨a3,b3,c3⟩=>?_
 refine Ret.bnd (Aw hc (by omega) hs c3) fun r4 ⟨⟨a4,b4⟩,c4⟩=>?_
 refine Ret.bnd (ct hc (by omega) hs c4 40 (by decide)) fun r5 ⟨a5,b5,c5⟩=>?_
 refine Ret.bnd (ct hc (by omega) hs c5 6 (by decide)) fun r6 ⟨a6,b6,c6⟩=>?_
 refine Ret.need (cj a6 b6) ?_
 rw[gb (by omega) (by omega),gb (by omega) (by omega),cx (by omega) (by omega)]
 have hd:=gq (P:=fun x=> -2147483648≤x∧x≤2147483647) (xs:=[0,r3.1-128,r4.1-2147483648,8*r5.1,-129,128]) (d:=aD .i) a6 b6 (by simp;omega)
 generalize aQ [0,r3.1-128,r4.1-2147483648,8*r5.1,-129,128] r6.1 (aD .i)=D at hd⊢
 refine Ret.bnd (ct hc (by omega) hs c6 6 (by decide)) fun r7 ⟨a7,b7,c7⟩=>?_
 refine Ret.br (fun _=>Ret.some ⟨?_,(c7.mono (by omega)).at h0⟩) fun _=>?_
 ·unfold memT kF;dsimp only;omega
 refine Ret.bnd (Q:=fun y=>∃(b:Int) (s':ot),y=Sum.inl ((),(s',((0,(0,(0,(0,(0,(0,(0,()))))))),((2,(0,(b,(-1,(1,(D,(0,()))))))),()))))∧ -1≤b∧b≤15∧Src code (k+30) s') ?_ ?_
 ·refine Ret.br (fun _=>Ret.some ⟨_,_,rfl,by decide,by decide,c7.mono (by omega)⟩) fun _=>?_
  refine Ret.bnd (Q:=fun y=>∃(b:Int) (s':ot),y=Sum.inl ((),(s',((0,(0,(0,(0,(0,(0,(0,()))))))),((2,(0,(b,(-1,(1,(D,(0,()))))))),()))))∧ -1≤b∧b≤15∧Src code (k+30) s') ?_ (by rintro _ ⟨b,s',rfl,h1,h2,h3⟩;rw[aE];exact Ret.some ⟨b,s',rfl,h1,h2,h3⟩)
  refine Ret.br (fun _=>?_) fun _=>Ret.some ⟨_,_,rfl,by omega,by omega,c7.mono (by omega)⟩
  refine Ret.bnd (ct hc (by omega) hs c7 4 (by decide)) fun r8 ⟨a8,b8,c8⟩=>?_
  refine Ret.need (cj a8 b8) ?_
  have hb:=gq (P:=fun x=> -1≤x∧x≤15) (xs:=[4,5,12,13]) (d:=aD .i) a8 b8 (by simp)
  exact Ret.some ⟨_,_,rfl,hb.1,hb.2,c8.mono (by omega)⟩
 rintro _ ⟨b,s',rfl,b0,b1,cs⟩
 rw[aE]
 dsimp only
 refine Ret.bnd (e7 hc (by omega) cs.code cs 2 (by decide)) fun r13 c13=>Ret.br (fun _=>?_) fun _=>Ret.some ⟨?_,(c13.mono (by omega)).at h0⟩
 ·refine Ret.bnd (ct hc (by omega) cs.code c13 11 (by decide)) fun r14 ⟨a14,b14,c14⟩=>?_
  refine Ret.need (cj a14 b14) ?_
  refine Ret.bnd (As hc (by omega) cs.code c14) fun r15 ⟨a15,c15⟩=>Ret.some ⟨?_,(c15.mono (by omega)).at h0⟩
  obtain⟨i0,i1,i2⟩:=gq (P:=fun x=>0≤x∧x≤15∧x≠4) (xs:=[0,1,2,3,5,6,7,8,12,13,15]) (d:=aD .i) a14 b14 (by simp)
  refine⟨rfl,rfl,rfl,b0,(by show b≤16;omega),?_,i1,i2,?_,.inl ?_,hd.1,hd.2⟩
  ·exact Int.le_trans (by decide) i0
  ·rcases a15 with h|h|h|h
   ·exact .inl h
   ·exact .inr ⟨ne_m1 i0,.inl h⟩
   ·exact .inr ⟨ne_m1 i0,.inr (.inl h)⟩
   ·exact .inr ⟨ne_m1 i0,.inr (.inr h)⟩
  ·show b≠16;omega
 ·unfold memT kF;dsimp only;omega
def regT (z:Int)(o:OpT):Prop:=o.1=1∧o.2.2.1=0∧o.2.2.2.1=0∧o.2.2.2.2.1=0∧o.2.2.2.2.2.1=0∧o.2.2.2.2.2.2.1=0∧qu o.2.1 z
theorem jw {code:List Int}(hc:fk code){k:Int}(hk:k≤4611686018427386000){s s0:ot}(h0:s0.1=code)(h:Src code k s)(z:Int):
  Ret (az ((z,()),(s,()))) fun r=>regT z r.1∧Src code (k+9) (s0.1,r.2.1.2):=by
 unfold az
 dsimp only
 have hs:=h.code
 refine Ret.bnd (ct hc (by omega) hs h 16 (by decide)) fun r2 ⟨a2,b2,c2⟩=>?_
 refine Ret.br (fun hz=>?_) fun _=>?_
 ·rw[ca]at hz
  refine Ret.bnd (e7 hc (by omega) hs c2 5 (by decide)) fun r3 c3=>?_
  refine Ret.bnd (Q:=fun y=>∃(b:Int) (s':ot),y=Sum.inl ((b,()),(s',((0,(0,(0,(0,(0,(0,(0,()))))))),())))∧0≤b∧b≤19∧Src code (k+9) s') ?_ ?_
  ·refine Ret.br (fun _=>?_) fun _=>Ret.some ⟨_,_,rfl,by omega,by omega,c3.mono (by omega)⟩
   refine Ret.bnd (ct hc (by omega) hs c3 4 (by decide)) fun r4 ⟨a4,b4,c4⟩=>?_
   rw[bS (by omega) (by omega)]
   exact Ret.some ⟨_,_,rfl,by omega,by omega,c4.mono (by omega)⟩
  ·rintro _ ⟨b,s',rfl,b0,b1,cs⟩
   rw[aE]
   exact Ret.some ⟨by unfold regT qu;dsimp only;omega,cs.at h0⟩
 ·rw[aE]
  exact Ret.some ⟨by unfold regT qu;dsimp only;omega,(c2.mono (by omega)).at h0⟩
def rmT (z:Int)(o:OpT):Prop:=regT z o∨memT o
theorem jx {code:List Int}(hc:fk code){k:Int}(hk:k≤4611686018427385000){s s0:ot}(h0:s0.1=code)(h:Src code k s)(z:Int):
  Ret (aw ((z,()),(s,()))) fun r=>rmT z r.1∧Src code (k+43) (s0.1,r.2.1.2):=by
 unfold aw
 dsimp only
 have hs:=h.code
 refine Ret.bnd (e7 hc (by omega) hs h 2 (by decide)) fun r2 c2=>?_
 refine Ret.br (fun _=>?_) fun _=>?_
 ·refine Ret.bnd (wY hc (by omega) hs c2) fun r3 ⟨a3,c3⟩=>Ret.some ⟨.inr a3,(c3.mono (by omega)).at h0⟩
 ·refine Ret.bnd (jw hc (by omega) hs c2 z) fun r3 ⟨a3,c3⟩=>Ret.some ⟨.inl a3,(c3.mono (by omega)).at h0⟩
theorem sm {code:List Int}(hc:fk code){k:Int}(hk:k≤4611686018427385000){s s0:ot}(h0:s0.1=code)(h:Src code k s){z:Int}(hz:1≤z):
  Ret (aU ((z,()),(s,()))) fun r=>I64 r.1.2.2.2.2.2.2.1∧Src code (k+13) (s0.1,r.2.1.2):=by
 unfold aU
 dsimp only
 have hs:=h.code
 refine Ret.bnd (ct hc (by omega) hs h 256 (by decide)) fun r2 ⟨a2,b2,c2⟩=>?_
 refine Ret.bnd (Aw hc (by omega) hs c2) fun r3 ⟨_,c3⟩=>?_
 refine Ret.bnd (ct hc (by omega) hs c3 65536 (by decide)) fun r4 ⟨a4,b4,c4⟩=>?_
 refine Ret.bnd (ct hc (by omega) hs c4 7 (by decide)) fun r5 ⟨a5,b5,c5⟩=>?_
 have hm:1≤jk z 4∧jk z 4≤4:=by unfold jk;split<;>omega
 refine Ret.need (cj a5 b5) (Ret.bnd (Ret.of_eq (lH _ _ hm.1 (by omega)) rfl) fun r6 hr6=>?_)
 subst hr6
 exact Ret.some ⟨le _ (by omega) _,(c5.mono (by omega)).at h0⟩
theorem Ret.left {α γ β:Type}{o:Option (Sum α γ)}{f:Sum α γ→Option β}{R:β→Prop}(Q:α→Prop)(h:Ret o (fun z=>bp z Q fun _=>False))(k:∀x,Q x→Ret (f (.inl x)) R):Ret (bnd o f) R:=by
 obtain⟨z,rfl,hz⟩:=h
 cases z with
 |inl x=>exact k x hz
 |inr x=>exact hz.elim
theorem Ret.any {α β:Type}{o:Option α}{f:α→Option β}{R:β→Prop}(h:Ret o fun _=>True)(k:∀x,Ret (f x) R):Ret (Go.Den.bnd o f) R:=Ret.bnd h fun x _=>k x
theorem fF {z:Int}{o:OpT}(h:regT z o):I64 o.2.2.2.2.2.2.1:=by rw[h.2.2.2.2.2.1];unfold I64;omega
theorem tW {o:OpT}(h:memT o):I64 o.2.2.2.2.2.2.1:=by rw[h.2.2.1];unfold I64;omega
theorem fh {z:Int}{o:OpT}(h:rmT z o):I64 o.2.2.2.2.2.2.1:=by
 rcases h with h|h
 ·exact fF h
 ·exact tW h
abbrev InT:=Int×(Int×(Int×(Int×(Int×(Int×(Int×(Int×(Int×(Int×(Int×(Int×(Int×(Int×(Int×(Int×(Int×(Int×(Int×Unit))))))))))))))))))
def J {A R:Type}(code:List Int)(k:Int)(z:A×(ot×(InT×R))):Prop:=Src code k z.2.1∧I64 (p10 z.2.2.1)∧I64 (p17 z.2.2.1)
def J2 {A R:Type}(code:List Int)(k:Int)(z:A×(ot×(R×(InT×Unit)))):Prop:=Src code k z.2.1∧I64 (p10 z.2.2.2.1)∧I64 (p17 z.2.2.2.1)
def immI (x:Ins):Prop:=I64 x.dst.imm∧I64 x.src.imm
theorem other_r {code:List Int}(hc:fk code){k:Int}(hk:k≤4611686018427380000){s s0:ot}(h0:s0.1=code)(h:Src code k s){x:Ins}(hx:immI x)(more:Int):
  Ret (cr ((x,(more,())),(s,()))) fun r=>immI r.1∧Src code (k+150) (s0.1,r.2.1.2):=by
 unfold cr
 dsimp only
 refine Ret.left (J code k) ?_ ?_
 ·refine Ret.br (fun _=>Ret.some ⟨h,hx⟩) fun _=>?_
  refine Ret.left (J code k) ?_ fun _ hz=>Ret.some hz
  refine Ret.br (fun _=>Ret.some ⟨h,hx⟩) fun _=>?_
  refine Ret.left (J code k) ?_ fun _ hz=>Ret.some hz
  exact Ret.br (fun _=>Ret.some ⟨h,hx⟩) fun _=>Ret.some ⟨h,hx⟩
 rintro z ⟨cs,hi⟩
 rw[aE]
 refine Ret.br (fun _=>?_) fun _=>?_
 ·refine Ret.bnd (jw hc (by omega) cs.code cs _) fun r8 ⟨a8,c8⟩=>?_
  refine Ret.left (J code (k+12)) (Ret.br (fun _=>Ret.bnd (ct hc (by omega) cs.code c8 16 (by decide)) fun r9 ⟨_,_,c9⟩=>Ret.some ⟨c9.mono (by omega),fF a8,hi.2⟩) fun _=>Ret.some ⟨c8.mono (by omega),fF a8,hi.2⟩) ?_
  rintro z ⟨cs,hi⟩
  rw[aE]
  refine Ret.any (Ret.br (fun _=>Ret.some trivial) fun _=>Ret.some trivial) fun x12=>?_
  refine Ret.left (J code (k+15)) (Ret.br (fun _=>?_) fun _=>Ret.some ⟨cs.mono (by omega),hi⟩) ?_
  ·refine Ret.bnd (ct hc (by omega) cs.code cs 3 (by decide)) fun r13 ⟨a13,b13,c13⟩=>?_
   refine Ret.need (cj a13 b13) ?_
   refine Ret.any (Ret.br (fun _=>Ret.some trivial) fun _=>Ret.any (Ret.br (fun _=>Ret.some trivial) fun _=>Ret.some trivial) fun _=>Ret.some trivial) fun x15=>?_
   exact Ret.left (J code (k+15)) (Ret.br (fun _=>Ret.some ⟨c13.mono (by omega),hi⟩) fun _=>Ret.some ⟨c13.mono (by omega),hi⟩) fun _ hz=>Ret.some hz
  rintro z ⟨cs,hi⟩
  rw[aE]
  refine Ret.any (show Ret (cJ _) _ from Ret.br (fun _=>Ret.some trivial) fun _=>Ret.some trivial) fun x20=>?_
  refine Ret.bnd (jx hc (by omega) cs.code cs x20.1) fun r21 ⟨a21,c21⟩=>?_
  exact Ret.some ⟨⟨hi.1,fh a21⟩,(c21.mono (by omega)).at h0⟩
 refine Ret.br (fun _=>?_) fun _=>?_
 ·refine Ret.bnd (jw hc (by omega) cs.code cs _) fun r8 ⟨a8,c8⟩=>?_
  refine Ret.bnd (wY hc (by omega) cs.code c8) fun r9 ⟨a9,c9⟩=>?_
  exact Ret.some ⟨⟨fF a8,tW a9⟩,(c9.mono (by omega)).at h0⟩
 refine Ret.left (J code k) ?_ ?_
 ·refine Ret.br (fun _=>Ret.some ⟨cs,hi⟩) fun _=>?_
  refine Ret.left (J code k) ?_ fun _ hz=>Ret.some hz
  exact Ret.br (fun _=>Ret.some ⟨cs,hi⟩) fun _=>Ret.some ⟨cs,hi⟩
 rintro z ⟨cs,hi⟩
 rw[aE]
 refine Ret.br (fun _=>?_) fun _=>?_
 ·refine Ret.bnd (jx hc (by omega) cs.code cs _) fun r8 ⟨a8,c8⟩=>?_
  refine Ret.bnd (e7 hc (by omega) cs.code c8 2 (by decide)) fun r9 c9=>?_
  refine Ret.br (fun _=>?_) fun _=>Ret.some ⟨⟨hi.1,fh a8⟩,(c9.mono (by omega)).at h0⟩
  refine Ret.bnd (sm hc (by omega) cs.code c9 (by decide)) fun r10 ⟨a10,c10⟩=>?_
  exact Ret.some ⟨⟨hi.1,a10⟩,(c10.mono (by omega)).at h0⟩
 refine Ret.br (fun _=>?_) fun _=>Ret.br (fun _=>?_) fun _=>Ret.br (fun _=>?_) fun _=>?_
 ·refine Ret.bnd (jx hc (by omega) cs.code cs _) fun r8 ⟨a8,c8⟩=>?_
  exact Ret.some ⟨⟨fh a8,hi.2⟩,(c8.mono (by omega)).at h0⟩
 ·refine Ret.bnd (ct hc (by omega) cs.code cs 16 (by decide)) fun r9 ⟨_,_,c9⟩=>?_
  refine Ret.bnd (sm hc (by omega) cs.code c9 (by decide)) fun r10 ⟨a10,c10⟩=>?_
  exact Ret.some ⟨⟨hi.1,a10⟩,(c10.mono (by omega)).at h0⟩
 ·refine Ret.bnd (ct hc (by omega) cs.code cs 16 (by decide)) fun r9 ⟨_,_,c9⟩=>?_
  refine Ret.bnd (jx hc (by omega) cs.code c9 _) fun r10 ⟨a10,c10⟩=>?_
  exact Ret.some ⟨⟨fh a10,hi.2⟩,(c10.mono (by omega)).at h0⟩
 refine Ret.left (J code k) (Ret.br (fun _=>Ret.some ⟨cs,hi⟩) fun _=>Ret.some ⟨cs,hi⟩) ?_
 rintro z ⟨cs,hi⟩
 rw[aE]
 refine Ret.br (fun _=>Ret.some ⟨hi,(cs.mono (by omega)).at h0⟩) fun _=>?_
 refine Ret.left (J code k) (Ret.br (fun _=>Ret.some ⟨cs,hi⟩) fun _=>Ret.some ⟨cs,hi⟩) ?_
 rintro z ⟨cs,hi⟩
 rw[aE]
 refine Ret.br (fun _=>Ret.some ⟨hi,(cs.mono (by omega)).at h0⟩) fun _=>Ret.br (fun _=>?_) fun _=>Ret.some ⟨hi,(cs.mono (by omega)).at h0⟩
 refine Ret.bnd (ct hc (by omega) cs.code cs 256 (by decide)) fun r9 ⟨a9,b9,c9⟩=>?_
 exact Ret.some ⟨⟨hi.1,(by show I64 r9.1;unfold I64;omega)⟩,(c9.mono (by omega)).at h0⟩
def J3 {A R:Type}(code:List Int)(k:Int)(z:(Int×A)×(ot×(R×(InT×Unit)))):Prop:=(z.1.1=2∨z.1.1=4∨z.1.1=8)∧J2 code k z
def rO (x:Ins):Prop:=immI x∧∃n:Nat,1≤n∧n<45∧x.op=n∧oJ x n
theorem ok_of (x:Ins):Ret (bt ((x,()),())) fun r=>r.1=true→∃n:Nat,1≤n∧n<45∧x.op=n∧oJ x n:=by
 by_cases ho:1≤x.op∧x.op≤44
 ·obtain⟨n,hn⟩:=Int.eq_ofNat_of_zero_le (show 0≤x.op by omega)
  have h1:1≤n:=by omega
  have h2:n<45:=by omega
  exact Ret.of_eq (tS x h1 h2 hn) fun h=>⟨n,h1,h2,hn,of_decide_eq_true h⟩
 ·exact Ret.of_eq (uu x ho).2 fun h=>absurd h (by decide)
theorem fit0:∀z:Nat,z<9→2≤z→qt 0 (z:Int)=true:=by decide +kernel
theorem add_ok {z:Int}{o p:OpT}(hz:z=2∨z=4∨z=8)(ho:rmT z o)(hp:regT z p):rO (Ins.mk 1 z 0 0 (gY o) (gY p) 0):=by
 refine⟨⟨fh ho,fF hp⟩,1,by decide,by decide,rfl,?_⟩
 obtain⟨p1,p2,p3,p4,p5,p6,p7⟩:=hp
 have hpb:j9 (gY p) z:= .inl ⟨p1,p2,p3,p4,p5,p6,p7⟩
 have hk:(gY o).kind=1∨(gY o).kind=2:=by
  rcases ho with h|h
  ·exact .inl h.1
  ·exact .inr h.1
 have hob:j9 (gY o) z:=by
  rcases ho with ⟨o1,o2,o3,o4,o5,o6,o7⟩|h
  ·exact .inl ⟨o1,o2,o3,o4,o5,o6,o7⟩
  ·exact .inr (.inl h)
 have hs:sSz (Ins.mk 1 z 0 0 (gY o) (gY p) 0) 1=z:=by unfold sSz;rw[if_neg (by decide),if_neg (show ¬(0:Int)<0 by decide)]
 refine⟨Int.le_refl 0,(show(0:Int)≤15 by decide),?_,.inr rfl,.inr rfl,Int.le_refl 0,(show(0:Int)≤15 by decide),hob,by rw[hs];exact hpb,.inl ?_⟩
 ·unfold shB
  have e1:decide ((Ins.mk 1 z 0 0 (gY o) (gY p) 0).size∈szL (szK 1))=true:=by
   show decide (z∈szL 0)=true
   rcases hz with rfl|rfl|rfl<;>decide
  have e2:(prK 1).any (fW (gY o).kind (gY p).kind)=true:=by
   rw[show(gY p).kind=1 from p1]
   rcases hk with h|h<;>rw[h]<;>decide
  have e3:Ag (Ins.mk 1 z 0 0 (gY o) (gY p) 0) 1=true:=by
   show qt (gY p).imm z=true
   rw[show(gY p).imm=0 from p6]
   rcases hz with rfl|rfl|rfl
   ·exact fit0 2 (by decide) (by decide)
   ·exact fit0 4 (by decide) (by decide)
   ·exact fit0 8 (by decide) (by decide)
  rw[e1,e3]
  show(true&&((prK 1).any (fW (gY o).kind (gY p).kind)&&true))=true
  rw[e2]
  rfl
 ·rintro(⟨a,b⟩|⟨a,b⟩)
  ·have a:o.1=1:=a
   have b:16≤o.2.1:=b
   rcases ho with ⟨_,_,_,_,_,_,o7⟩|h
   ·unfold qu at o7
    omega
   ·have:=h.1
    omega
  ·have b:16≤p.2.1:=b
   unfold qu at p7
   omega
theorem zo {x:Ins}{n:Nat}(h:oJ x n)(hk:x.dst.kind=2){d:Int}(d0:0≤d)(d1:d<100):oJ (Ins.mk x.op x.size x.cond x.frm (Opd.mk x.dst.kind x.dst.reg x.dst.base (-1) 1 d x.dst.imm) x.src x.len) n:=by
 obtain⟨a1,a2,a3,a4,a5,a6,a7,a8,a9,a10⟩:=h
 refine⟨a1,a2,a3,a4,a5,a6,a7,?_,a9,?_⟩
 ·unfold j9 opB kF at a8⊢
  dsimp only
  omega
 ·refine a10.imp id fun⟨b1,b2,b3⟩=>⟨?_,b2,b3⟩
  unfold ol ry at b1⊢
  dsimp only
  omega
theorem t3 {x:Ins}{n:Nat}(h:oJ x n)(hk:x.src.kind=2){d:Int}(d0:0≤d)(d1:d<100):oJ (Ins.mk x.op x.size x.cond x.frm x.dst (Opd.mk x.src.kind x.src.reg x.src.base (-1) 1 d x.src.imm) x.len) n:=by
 obtain⟨a1,a2,a3,a4,a5,a6,a7,a8,a9,a10⟩:=h
 have hs:sSz (Ins.mk x.op x.size x.cond x.frm x.dst (Opd.mk x.src.kind x.src.reg x.src.base (-1) 1 d x.src.imm) x.len) n=sSz x n:=rfl
 refine⟨a1,a2,a3,a4,a5,a6,a7,a8,?_,?_⟩
 ·rw[hs]
  unfold j9 opB kF at a9⊢
  dsimp only
  omega
 ·refine a10.imp id fun⟨b1,b2,b3⟩=>⟨b1,?_,b3⟩
  rw[hs]
  unfold ol ry at b2⊢
  dsimp only
  omega
theorem instr_r {code:List Int}(hc:fk code){k:Int}(hk:k≤4611686018427370000){s s0:ot}(h0:s0.1=code)(h:Src code k s):
  Ret (cq ((),(s,()))) fun r=>rO r.1∧Src code (k+400) (s0.1,r.2.1.2):=by
 unfold cq
 dsimp only
 have hs:=h.code
 refine Ret.bnd (ct hc (by omega) hs h 44 (by decide)) fun r2 ⟨a2,b2,c2⟩=>?_
 refine Ret.bnd (As hc (by omega) hs c2) fun r3 ⟨a3,c3⟩=>?_
 refine Ret.bnd (ct hc (by omega) hs c3 4 (by decide)) fun r4 ⟨a4,b4,c4⟩=>?_
 refine Ret.need (cj a4 b4) ?_
 have hm:=gq (P:=fun x=>x=2∨x=4∨x=8) (xs:=[2,4,8,8]) (d:=aD .i) a4 b4 (by simp)
 have z0:I64 (0:Int):=by unfold I64;decide
 have hz1:1≤r3.1:=by omega
 refine Ret.left (fun z=>J3 code (k+9) z∧1≤z.2.2.2.1.2.1) (Ret.br (fun _=>Ret.some ⟨⟨hm,c4.mono (by omega),z0,z0⟩,hz1⟩) fun _=>Ret.some ⟨⟨hm,c4.mono (by omega),z0,z0⟩,hz1⟩) ?_
 rintro z ⟨⟨hm,cs,hi⟩,hz⟩
 rw[aE]
 refine Ret.left (J3 code (k+230)) (Ret.br (fun _=>?_) fun _=>?_) ?_
 ·
  refine Ret.bnd (jx hc (by omega) cs.code cs _) fun r7 ⟨a7,c7⟩=>?_
  refine Ret.bnd (jw hc (by omega) cs.code c7 _) fun r8 ⟨a8,c8⟩=>?_
  refine Ret.bnd (ct hc (by omega) cs.code c8 3 (by decide)) fun r9 ⟨_,_,c9⟩=>?_
  refine Ret.left (J3 code (k+130)) (Ret.br (fun _=>?_) fun _=>?_) ?_
  ·refine Ret.bnd (sm hc (by omega) cs.code c9 hz) fun r10 ⟨a10,c10⟩=>?_
   exact Ret.some ⟨hm,c10.mono (by omega),fh a7,a10⟩
  ·refine Ret.left (J3 code (k+130)) (Ret.br (fun _=>?_) fun _=>Ret.some ⟨hm,c9.mono (by omega),fh a7,fF a8⟩) fun _ hz=>Ret.some hz
   refine Ret.left (J3 code (k+130)) (Ret.br (fun _=>?_) fun _=>Ret.some ⟨hm,c9.mono (by omega),fh a7,fF a8⟩) fun _ hz=>Ret.some hz
   refine Ret.bnd (jw hc (by omega) cs.code c9 _) fun r11 ⟨a11,c11⟩=>?_
   refine Ret.bnd (jx hc (by omega) cs.code c11 _) fun r12 ⟨a12,c12⟩=>?_
   exact Ret.some ⟨hm,c12.mono (by omega),fF a11,fh a12⟩
  rintro z ⟨hm,cs,hi⟩
  rw[aE]
  refine Ret.any (Ret.br (fun _=>Ret.some trivial) fun _=>Ret.some trivial) fun x19=>?_
  refine Ret.br (fun _=>?_) fun _=>Ret.some ⟨hm,cs.mono (by omega),hi⟩
  refine Ret.bnd (e7 hc (by omega) cs.code cs 5 (by decide)) fun r20 c20=>?_
  refine Ret.left (J3 code (k+230)) (Ret.br (fun _=>?_) fun _=>Ret.some ⟨hm,c20.mono (by omega),hi⟩) fun _ hz=>Ret.some hz
  refine Ret.bnd (jw hc (by omega) cs.code c20 _) fun r21 ⟨a21,c21⟩=>?_
  refine Ret.bnd (xQ hc (by omega) cs.code c21) fun r22 ⟨a22,c22⟩=>?_
  exact Ret.some ⟨hm,c22.mono (by omega),fF a21,a22⟩
 ·refine Ret.left (J3 code (k+230)) (Ret.br (fun _=>?_) fun _=>?_) fun _ hz=>Ret.some hz
  ·refine Ret.bnd (jx hc (by omega) cs.code cs _) fun r7 ⟨a7,c7⟩=>?_
   refine Ret.bnd (jw hc (by omega) cs.code c7 _) fun r8 ⟨a8,c8⟩=>?_
   exact Ret.some ⟨hm,c8.mono (by omega),fh a7,fF a8⟩
  refine Ret.left (J3 code (k+9)) ?_ ?_
  ·refine Ret.br (fun _=>Ret.some ⟨hm,cs,hi⟩) fun _=>?_
   refine Ret.left (J3 code (k+9)) ?_ fun _ hz=>Ret.some hz
   refine Ret.br (fun _=>Ret.some ⟨hm,cs,hi⟩) fun _=>?_
   refine Ret.left (J3 code (k+9)) ?_ fun _ hz=>Ret.some hz
   exact Ret.br (fun _=>Ret.some ⟨hm,cs,hi⟩) fun _=>Ret.some ⟨hm,cs,hi⟩
  rintro z ⟨hm,cs,hi⟩
  rw[aE]
  refine Ret.left (J3 code (k+230)) (Ret.br (fun _=>?_) fun _=>?_) fun _ hz=>Ret.some hz
  ·refine Ret.bnd (jx hc (by omega) cs.code cs _) fun r7 ⟨a7,c7⟩=>?_
   exact Ret.some ⟨hm,c7.mono (by omega),fh a7,hi.2⟩
  refine Ret.any (show Ret (aA _) _ by rw[cg];exact Ret.of_eq (aR _ _ _) trivial) fun x35=>?_
  refine Ret.left (J3 code (k+230)) (Ret.br (fun _=>?_) fun _=>?_) fun _ hz=>Ret.some hz
  ·refine Ret.bnd (jx hc (by omega) cs.code cs _) fun r7 ⟨a7,c7⟩=>?_
   exact Ret.some ⟨hm,c7.mono (by omega),hi.1,fh a7⟩
  refine Ret.any (show Ret (aA _) _ by rw[cg];exact Ret.of_eq (aR _ _ _) trivial) fun x37=>?_
  refine Ret.left (J3 code (k+230)) (Ret.br (fun _=>?_) fun _=>?_) fun _ hz=>Ret.some hz
  ·refine Ret.bnd (jx hc (by omega) cs.code cs _) fun r7 ⟨a7,c7⟩=>?_
   refine Ret.bnd (ct hc (by omega) cs.code c7 256 (by decide)) fun r8 ⟨a8,b8,c8⟩=>?_
   refine Ret.bnd (e7 hc (by omega) cs.code c8 3 (by decide)) fun r9 c9=>?_
   exact Ret.left (J3 code (k+230)) (Ret.br (fun _=>Ret.some ⟨hm,c9.mono (by omega),fh a7,z0⟩) fun _=>Ret.some ⟨hm,c9.mono (by omega),fh a7,(by show I64 r8.1;unfold I64;omega)⟩) fun _ hz=>Ret.some hz
  ·refine Ret.bnd (other_r hc (by omega) cs.code cs (x:=iD _) hi _) fun r7 ⟨a7,c7⟩=>?_
   exact Ret.some ⟨hm,c7.mono (by omega),a7.1,a7.2⟩
 rintro z ⟨hm,cs,hi⟩
 rw[aE]
 refine Ret.bnd (ok_of _) fun r54 h54=>?_
 refine Ret.br (fun _=>?_) fun hb=>?_
 ·refine Ret.bnd (jx hc (by omega) cs.code cs _) fun r7 ⟨a7,c7⟩=>?_
  refine Ret.bnd (jw hc (by omega) cs.code c7 _) fun r8 ⟨a8,c8⟩=>?_
  exact Ret.some ⟨add_ok hm a7 a8,(c8.mono (by omega)).at h0⟩
 ·rw[iQ]at hb
  exact Ret.some ⟨⟨hi,h54 hb⟩,(cs.mono (by omega)).at h0⟩
theorem near_r {code:List Int}(hc:fk code){k:Int}(hk:k≤4611686018427360000){s s0:ot}(h0:s0.1=code)(h:Src code k s):
  Ret (bZ ((),(s,()))) fun r=>rO r.1∧Src code (k+420) (s0.1,r.2.1.2):=by
 unfold bZ
 dsimp only
 have hs:=h.code
 refine Ret.bnd (instr_r hc (by omega) hs h) fun r2 ⟨hv,c2⟩=>?_
 refine Ret.br (fun hd=>?_) fun _=>?_
 ·rw[ca]at hd
  refine Ret.bnd (e7 hc (by omega) hs c2 2 (by decide)) fun r3 c3=>?_
  refine Ret.left (fun z=>Src code (k+406) z.2.1∧rO (iD z.2.2.2.1)) (Ret.br (fun _=>?_) fun _=>Ret.some ⟨c3.mono (by omega),hv⟩) ?_
  ·refine Ret.bnd (ct hc (by omega) hs c3 100 (by decide)) fun r4 ⟨a4,b4,c4⟩=>?_
   obtain⟨hi,n,n1,n2,hn,hP⟩:=hv
   exact Ret.some ⟨c4.mono (by omega),hi,n,n1,n2,hn,zo hP hd a4 b4⟩
  rintro z ⟨cs,hv⟩
  rw[aE]
  refine Ret.br (fun hd=>?_) fun _=>Ret.some ⟨hv,(cs.mono (by omega)).at h0⟩
  rw[ca]at hd
  refine Ret.bnd (e7 hc (by omega) cs.code cs 2 (by decide)) fun r7 c7=>?_
  refine Ret.br (fun _=>?_) fun _=>Ret.some ⟨hv,(c7.mono (by omega)).at h0⟩
  refine Ret.bnd (ct hc (by omega) cs.code c7 100 (by decide)) fun r8 ⟨a8,b8,c8⟩=>?_
  obtain⟨hi,n,n1,n2,hn,hP⟩:=hv
  exact Ret.some ⟨⟨hi,n,n1,n2,hn,t3 hP hd a8 b8⟩,(c8.mono (by omega)).at h0⟩
 ·rw[aE]
  refine Ret.br (fun hd=>?_) fun _=>Ret.some ⟨hv,(c2.mono (by omega)).at h0⟩
  rw[ca]at hd
  refine Ret.bnd (e7 hc (by omega) hs c2 2 (by decide)) fun r7 c7=>?_
  refine Ret.br (fun _=>?_) fun _=>Ret.some ⟨hv,(c7.mono (by omega)).at h0⟩
  refine Ret.bnd (ct hc (by omega) hs c7 100 (by decide)) fun r8 ⟨a8,b8,c8⟩=>?_
  obtain⟨hi,n,n1,n2,hn,hP⟩:=hv
  exact Ret.some ⟨⟨hi,n,n1,n2,hn,t3 hP hd a8 b8⟩,(c8.mono (by omega)).at h0⟩
theorem ph {code:List Int}(hc:fk code):Ret (cz ((code,()),())) fun r=>rO r.1:=by
 unfold cz
 refine Ret.bnd (lU hc) fun s hs=>?_
 refine Ret.bnd (show Ret (bZ ((),s.2)) _ from near_r hc (by decide) hs.code hs) fun r hr=>?_
 exact Ret.some hr.1
def orK (u:Nat):Bool:=u&&& 2245 != u||[1,4,64,128,2048].all fun b=>bh (ior .i64 (u:Int) b)
theorem orK_all:∀u:Nat,u<2246→orK u=true:=by decide +kernel
theorem or_flag {f b:Int}(hI:I64 f)(hf:bh f=true)(hb:b∈([1,4,64,128,2048]:List Int)):bh (ior .i64 f b)=true:=by
 obtain⟨u,hu,rfl,hm⟩:=tF hI hf
 have:=orK_all u hu
 unfold orK at this
 rw[hm]at this
 simp only[bne_self_eq_false,Bool.false_or,List.all_eq_true]at this
 exact this b hb
theorem flags_r {code:List Int}(hc:fk code){k:Int}(hk:k≤4611686018427360000){s s0:ot}(h0:s0.1=code)(h:Src code k s):
  Ret (co ((),(s,()))) fun r=>(I64 r.1∧bh r.1=true)∧Src code (k+15) (s0.1,r.2.1.2):=by
 unfold co
 dsimp only
 have z1:I64 (0:Int):=by unfold I64;decide
 have z2:bh 0=true:=by decide
 refine Ret.iter (fun x=>x.1.2.1=5∧x.2.2.1=[1,4,64,128,2048]∧(I64 x.1.1∧bh x.1.1=true)∧∃j:Nat,j≤5∧x.1.2.2.1=(j:Int)∧Src code (k+3*j) x.2.1) (fun x=>5-x.1.2.2.1.toNat) ?_ F _
  ⟨rfl,rfl,by dsimp only;exact⟨z1,z2⟩,0,by decide,rfl,by simpa using h⟩ (by unfold F;simp)
 rintro⟨⟨f,n,i,_⟩,s',t,_⟩ rec ⟨e1,e2,hf,j,hj,e3,cs⟩ hrec
 dsimp only at e1 e2 hf e3 cs hrec⊢
 subst e1 e2 e3
 refine Ret.br (fun hl=>?_) fun _=>Ret.some ⟨hf,(cs.mono (by omega)).at h0⟩
 rw[mb]at hl
 refine Ret.need (cj (by omega) (by rw[show bW ([1,4,64,128,2048]:List Int)=5 from rfl];omega)) ?_
 refine Ret.bnd (e7 hc (by omega) cs.code cs 2 (by decide)) fun r4 c4=>?_
 have hb:=gq (P:=fun x=>x∈([1,4,64,128,2048]:List Int)) (xs:=[1,4,64,128,2048]) (i:=(j:Int)) (d:=aD .i) (by omega) (by simp;omega) (fun x hx=>hx)
 refine Ret.left (fun z=>z.1.2.1=5∧z.2.2.1=[1,4,64,128,2048]∧(I64 z.1.1∧bh z.1.1=true)∧z.1.2.2.1=(j:Int)∧Src code (k+3*j+3) z.2.1) (Ret.br (fun _=>Ret.some ⟨rfl,rfl,⟨jb ..,or_flag hf.1 hf.2 hb⟩,rfl,c4⟩) fun _=>Ret.some ⟨rfl,rfl,hf,rfl,c4⟩) ?_
 rintro z ⟨e1,e2,hf,e3,cs⟩
 rw[aE,e3,bS (by omega) (by omega)]
 exact hrec _ ⟨e1,e2,hf,j+1,by omega,by simp,by dsimp only;exact cs.mono (by omega)⟩ (by dsimp only;omega)
theorem qw {code:List Int}(hc:fk code):Ret (dJ ((code,()),())) fun r=>∃g p f,r=((g,(p,(f,()))),())∧iY g∧I64 p∧I64 f∧bh f=true:=by
 unfold dJ
 refine Ret.bnd (lU hc) fun s hs=>?_
 refine Ret.bnd (Q:=fun r=>∃g p f,r.1=(g,(p,(f,())))∧iY g∧I64 p∧I64 f∧bh f=true) ?_ (by rintro r ⟨g,p,f,e,h⟩;exact Ret.some ⟨g,p,f,by rw[e],h⟩)
 show Ret (cW ((),s.2)) _
 unfold cW
 dsimp only
 refine Ret.bnd (ct hc (by decide) hs.code hs 40 (by decide)) fun r2 ⟨a2,b2,c2⟩=>?_
 refine Ret.bnd (flags_r hc (by decide) hs.code c2) fun r3 ⟨hf,c3⟩=>?_
 rw[bS (by omega) (by omega)]
 refine Ret.iter (fun x=>(∃g,x.2.2.2.1=(g,(16896+r2.1,(r3.1,())))∧iY g)∧∃j:Nat,j≤16∧x.1.1=(j:Int)∧Src code (18+100*j) x.2.1) (fun x=>16-x.1.1.toNat) ?_ F _
  ⟨⟨[],rfl,fun i=>by unfold rg aQ;rw[List.getD_nil];unfold I64;decide⟩,0,by decide,rfl,by simpa using c3⟩ (by unfold F;simp)
 rintro⟨⟨i,_⟩,s',zz,c,_⟩ rec ⟨⟨g,e1,hg⟩,j,hj,e2,cs⟩ hrec
 dsimp only at e1 e2 cs hrec⊢
 subst e1 e2
 have hI:I64 (16896+r2.1):=by unfold I64;omega
 refine Ret.br (fun hl=>?_) fun _=>?_
 ·rw[mb]at hl
  refine Ret.bnd (ct hc (by omega) cs.code cs 400 (by decide)) fun r6 ⟨a6,b6,c6⟩=>?_
  refine Ret.bnd (xQ hc (by omega) cs.code c6) fun r7 ⟨a7,c7⟩=>?_
  refine Ret.bnd (ct hc (by omega) cs.code c7 40 (by decide)) fun r8 ⟨a8,b8,c8⟩=>?_
  refine Ret.bnd (ct hc (by omega) cs.code c8 30 (by decide)) fun r9 ⟨a9,b9,c9⟩=>?_
  refine Ret.bnd (ct hc (by omega) cs.code c9 4 (by decide)) fun r10 ⟨a10,b10,c10⟩=>?_
  refine Ret.need (cj a10 b10) (Ret.need (cj (by omega) (by omega)) ?_)
  rw[bS (by omega) (by omega),cx (by omega) (by omega),bS (by omega) (by omega),bS (by omega) (by omega)]
  have hb:=gq (P:=I64) (xs:=[17408+r6.1,r7.1,r8.1,17408+8*r9.1]) (d:=aD .i) a10 b10 (by
   intro x hx
   simp only[List.mem_cons,List.not_mem_nil,or_false]at hx
   unfold I64 at a7⊢
   omega)
  exact hrec _ ⟨⟨_,rfl,hg.setA hb⟩,j+1,by omega,by simp,by dsimp only;exact c10.mono (by omega)⟩ (by dsimp only;omega)
 ·refine Ret.bnd (e7 hc (by omega) cs.code cs 2 (by decide)) fun r11 c11=>?_
  refine Ret.br (fun _=>?_) fun _=>Ret.some ⟨g,_,_,rfl,hg,hI,hf.1,hf.2⟩
  refine Ret.bnd (ct hc (by omega) cs.code c11 60 (by decide)) fun r12 ⟨a12,b12,c12⟩=>?_
  refine Ret.some ⟨_,_,_,rfl,hg.setA (i:=4) ?_,hI,hf.1,hf.2⟩
  exact ax _
noncomputable section
abbrev noOp:OpT:=(0,(0,(0,(0,(0,(0,(0,())))))))
def zj (x:Ins)(n:Nat):OpT×Bool:=
 if n=25 then(noOp,false)else if x.dst.kind=2 then(ck x.dst (),true)else if x.src.kind=2 then(ck x.src (),true)else(noOp,false)
section
variable {x:Ins}{n:Nat}(h1:1≤n)(h2:n<45)(hn:x.op=n)(hP:oJ x n)(hd:I64 x.dst.disp)(hs:I64 x.src.disp)
include h1 h2 hn hP hd hs
theorem ok_i:aV ((x,()),())=some (true,()):=by rw[ut x h1 h2 hn hd hs,decide_eq_true hP]
omit hd hs in
theorem ok_r:bt ((x,()),())=some (true,()):=by rw[tS x h1 h2 hn,decide_eq_true hP]
theorem memOf_i:dF ((x,()),())=some (((zj x n).1,((zj x n).2,(0,()))),()):=by
 unfold dF eU zj
 dsimp only
 rw[ok_i h1 h2 hn hP hd hs,af,hn]
 dsimp only
 rw[bP,aL]
 by_cases a:n=25
 ·rw[bU (by omega),bn,af,if_pos a]
 ·rw[aP (by omega),aL,if_neg a]
  by_cases b:x.dst.kind=2
  ·rw[bU b,bn,af,if_pos b]
  ·rw[aP b,aL,if_neg b]
   by_cases c:x.src.kind=2
   ·rw[bU c,bn,af,if_pos c]
   ·rw[aP c,aL,af,if_neg c]
omit hd hs in
theorem memOf_r:dK ((x,()),())=some (((zj x n).1,((zj x n).2,(0,()))),()):=by
 unfold dK eu zj
 dsimp only
 rw[ok_r h1 h2 hn hP,af,hn]
 dsimp only
 rw[bP,aL]
 by_cases a:n=25
 ·rw[bU (by omega),bn,af,if_pos a]
  dsimp only
  rw[dO,bn]
 ·rw[aP (by omega),aL,if_neg a]
  by_cases b:x.dst.kind=2
  ·rw[bU b,bn,af,if_pos b]
   dsimp only
   rw[bP,aL]
  ·rw[aP b,aL,if_neg b,af]
   dsimp only
   by_cases c:x.src.kind=2
   ·rw[bU c,bP,aL,if_pos c]
   ·rw[aP c,dO,bn,if_neg c]
def clsV (n:Nat):Int:=if n=31∨n=32∨n=33 then 2 else if n=34∨n=41∨n=42∨n=43∨n=44 then 3 else 1
end
def clsB (n:Nat):Bool:=match du (((n:Int),()),())with
 |some x=>decide (x.1.1=clsV n∧x.1.2.1=0)
 |none=>false
theorem yp:∀n:Nat,n<45→1≤n→clsB n=true:=by decide +kernel
theorem cls_i (n:Nat)(h2:n<45)(h1:1≤n):du (((n:Int),()),())=some ((clsV n,(0,())),()):=by
 have:=yp n h2 h1
 unfold clsB at this
 cases h:du (((n:Int),()),())with
 |none=>rw[h]at this;cases this
 |some x=>
  rw[h]at this
  obtain⟨⟨a,b,_⟩,_⟩:=x
  obtain⟨e1,e2⟩:=of_decide_eq_true this
  dsimp only at e1 e2
  rw[e1,e2]
theorem cls_r:∀n:Nat,n<45→1≤n→eX (((n:Int),()),())=some (clsV n,()):=by decide +kernel
def Aa (x:Ins)(n:Nat):Bool:=decide ((n=31∨n=32∨n=33)∧x.src.kind=3)
def wj (x:Ins)(n:Nat):Int:=if Aa x n=true then aF .i64 (aF .i64 20000 x.len) x.src.imm else 0
theorem cls2 (n:Nat):eqI (clsV n) 2=decide (n=31∨n=32∨n=33):=by
 unfold clsV
 by_cases h:n=31∨n=32∨n=33
 ·rw[if_pos h,decide_eq_true h];rfl
 ·rw[if_neg h,decide_eq_false h];split<;>rfl
section
variable {x:Ins}{n:Nat}(h1:1≤n)(h2:n<45)(hn:x.op=n)(hP:oJ x n)(hd:I64 x.dst.disp)(hs:I64 x.src.disp)
include h1 h2 hn hP hd hs
theorem yQ:eM ((x,(20000,())),())=some ((wj x n,(Aa x n,(0,()))),()):=by
 unfold eM gf wj Aa
 dsimp only
 rw[ok_i h1 h2 hn hP hd hs,af]
 dsimp only
 rw[bP,aL,aR,af,decide_eq_true (by decide)]
 dsimp only
 rw[bP,aL,hn,cls_i n h2 h1,af]
 dsimp only
 rw[cls2]
 by_cases a:n=31∨n=32∨n=33
 ·rw[decide_eq_true a,bP,aL,af]
  by_cases b:x.src.kind=3
  ·rw[bU b,bP,aL,af,decide_eq_true ⟨a,b⟩,if_pos rfl]
  ·rw[aP b,dO,bn,af,decide_eq_false (fun h=>b h.2),if_neg (by decide)]
 ·rw[decide_eq_false a,dO,bn,af,bn,af,decide_eq_false (fun h=>a h.1),if_neg (by decide)]
omit hd hs in
theorem yR:eW ((x,(20000,())),())=some ((wj x n,(Aa x n,(0,()))),()):=by
 unfold eW fE cK wj Aa
 dsimp only
 rw[ok_r h1 h2 hn hP,af]
 dsimp only
 rw[bP,aL,cg,aR,af,decide_eq_true (by decide)]
 dsimp only
 rw[bP,aL,hn,cls_r n h2 h1,af,af]
 dsimp only
 rw[cls2]
 by_cases a:n=31∨n=32∨n=33
 ·rw[decide_eq_true a,bP,aL,af]
  by_cases b:x.src.kind=3
  ·rw[bU b,bP,aL,af,decide_eq_true ⟨a,b⟩,if_pos rfl]
  ·rw[aP b,dO,bn,af,decide_eq_false (fun h=>b h.2),if_neg (by decide)]
 ·rw[decide_eq_false a,dO,bn,af,bn,af,decide_eq_false (fun h=>a h.1),if_neg (by decide)]
def Av (x:Ins)(n:Nat):OpT×Bool:=if(n=31∨n=32)∧x.src.kind≠3 then(ck x.src (),true)else(noOp,false)
theorem sX:dm ((x,()),())=some (((Av x n).1,((Av x n).2,(0,()))),()):=by
 unfold dm eo Av
 dsimp only
 rw[ok_i h1 h2 hn hP hd hs,af,hn]
 dsimp only
 rw[bP,aL]
 have e:br (aX (eqI (n:Int) 31)) (some (aX (eqI (n:Int) 32))) (some false)=some (!decide (n=31∨n=32)):=by
  by_cases a:n=31
  ·rw[bU (show(n:Int)=31 by omega),bP,aL,decide_eq_true (.inl a)];rfl
  ·rw[aP (show ¬(n:Int)=31 by omega),dO,bn]
   by_cases b:n=32
   ·rw[bU (show(n:Int)=32 by omega),decide_eq_true (.inr b)];rfl
   ·rw[aP (show ¬(n:Int)=32 by omega),decide_eq_false (by omega)];rfl
 rw[e,af]
 by_cases a:n=31∨n=32
 ·rw[decide_eq_true a]
  by_cases b:x.src.kind=3
  ·rw[bU b,if_neg (fun h=>h.2 b)];rfl
  ·rw[aP b,if_pos ⟨a,b⟩];rfl
 ·rw[decide_eq_false a,if_neg (fun h=>a h.1)];rfl
omit hd hs in
theorem sY (h33:n=33→x.src.kind=3):dr ((x,()),())=some (((Av x n).1,((Av x n).2,(0,()))),()):=by
 unfold dr dV cK Av
 dsimp only
 rw[ok_r h1 h2 hn hP,af,hn]
 dsimp only
 rw[bP,aL,cls_r n h2 h1,af,af]
 dsimp only
 rw[cls2]
 by_cases a:n=31∨n=32∨n=33
 ·rw[decide_eq_true a,bP,aL,af]
  by_cases b:x.src.kind=3
  ·rw[bU b,bn,af,if_neg (fun h=>h.2 b)]
  ·rw[aP b,aL,af,if_pos ⟨by by_cases h:n=33;exact absurd (h33 h) b;omega,b⟩]
 ·rw[decide_eq_false a,dO,bn,af,bn,af,if_neg (fun h=>a (by omega))]
end
theorem rR {g:List Int}{p f nx:Int}{o:Opd}(hf:bh f=true)(hd:I64 o.disp)(hm:kF o.kind o.reg o.base o.index o.scale o.disp o.imm):
  dj (((g,(p,(f,()))),(ck o (),(nx,()))),())=some ((gd g nx o,(0,())),()):=by
 have hb:o.base≤16∧o.index≤15:=by unfold kF at hm;omega
 have hM:bo ((ck o (),()),())=some (decide (kF o.kind o.reg o.base o.index o.scale o.disp o.imm),()):=tO hd
 unfold dj
 dsimp only
 rw[ta,hf,af]
 dsimp only
 rw[bP,aL,hM,decide_eq_true hm,af]
 dsimp only
 rw[bP,af,aL]
 dsimp only[ck,p5]
 have fin:∀a:Int,a=gd g nx o→(some ((a,((0:Int),())),()):Option ((Int×Int×Unit)×Unit))=some ((gd g nx o,(0,())),()):=fun a h=>by rw[h]
 by_cases b16:o.base=16
 ·rw[bU b16,bn]
  by_cases hi:0≤o.index
  ·rw[ag (fT hi),ag (cj hi (by omega))]
   exact fin _ (by unfold gd;dsimp only;rw[if_pos b16,if_pos hi])
  ·rw[aB (jP hi)]
   exact fin _ (by unfold gd;dsimp only;rw[if_pos b16,if_neg hi])
 ·rw[aP b16,aL]
  by_cases hb0:0≤o.base
  ·rw[ag (fT hb0),ag (cj hb0 (by omega))]
   by_cases hi:0≤o.index
   ·rw[ag (fT hi),ag (cj hi (by omega))]
    exact fin _ (by unfold gd;dsimp only;rw[if_neg b16,if_pos hb0,if_pos hi])
   ·rw[aB (jP hi)]
    exact fin _ (by unfold gd;dsimp only;rw[if_neg b16,if_pos hb0,if_neg hi])
  ·rw[aB (jP hb0)]
   by_cases hi:0≤o.index
   ·rw[ag (fT hi),ag (cj hi (by omega))]
    exact fin _ (by unfold gd;dsimp only;rw[if_neg b16,if_neg hb0,if_pos hi])
   ·rw[aB (jP hi)]
    exact fin _ (by unfold gd;dsimp only;rw[if_neg b16,if_neg hb0,if_neg hi])
end
theorem at_ret {more:List Int}(hc:fk more)(i n:Int)(hi:0≤i)(hi2:i≤1000000)(hn:1≤n):Ret (jc ((more,(i,(n,()))),())) fun r=>0≤r.1∧r.1<n:=by
 unfold jc
 dsimp only
 refine Ret.br (fun _=>Ret.some ⟨by dsimp only;omega,by dsimp only;omega⟩) fun h1=>Ret.br (fun h2=>?_) fun h2=>?_
 ·refine Ret.need (by rw[aP (by omega)];rfl) (Ret.some ?_)
  rw[cx (by omega) (by omega),dZ (by omega)]
  exact⟨Int.emod_nonneg _ (by omega),Int.emod_lt_of_pos _ (by omega)⟩
 ·rw[oc]at h2
  rw[cQ]at h2⊢
  have hl:0<(more.length:Int):=by omega
  have h3:aX (eqI (more.length:Int) 0)=true:=by rw[aP h2];rfl
  have hb:∀j,0≤j→j<(more.length:Int)→0≤aQ more j (aD .u)∧aQ more j (aD .u)≤255:=fun j h0 h1=>gq (P:=fun x=>0≤x∧x≤255) h0 h1 hc.1
  rw[bS (a:=i) (by omega) (by omega),dZ (a:=i) (by omega),dZ (a:=i+1) (by omega)]
  have e1:=Int.emod_nonneg i (show(more.length:Int)≠0 by omega)
  have e2:=Int.emod_lt_of_pos i hl
  have e3:=Int.emod_nonneg (i+1) (show(more.length:Int)≠0 by omega)
  have e4:=Int.emod_lt_of_pos (i+1) hl
  refine Ret.need h3 (Ret.need (cj e1 e2) (Ret.need h3 (Ret.need (cj e3 e4) (Ret.need h3 (Ret.need (by rw[aP (by omega)];rfl) (Ret.some ?_))))))
  obtain⟨x0,x1⟩:=hb _ e1 e2
  obtain⟨y0,y1⟩:=hb _ e3 e4
  have q0:0≤i/(more.length:Int):=Int.ediv_nonneg hi (by omega)
  have q1:i/(more.length:Int)≤i:=Int.ediv_le_self _ hi
  rw[mB hi hl (by omega),lh (by omega) (by omega),lh (by omega) (by omega),cx (by omega) (by omega),bS (a:=aQ more (i%more.length) (aD .u)*31) (by omega) (by omega),bS (by omega) (by omega),dZ (by omega)]
  exact⟨Int.emod_nonneg _ (by omega),Int.emod_lt_of_pos _ (by omega)⟩
noncomputable section
theorem xk (a b:Int):fu ((a,(b,())),())=some (aF .i64 a b,()):=by
 unfold fu
 dsimp only
 congr 2
 unfold aH
 rw[addU]
 unfold aF
 refine lV ?_
 rw[iB,iB]
 omega
theorem vO:ew true true=true:=rfl
theorem z5 (b:Bool):eqB b b=true:=by cases b<;>rfl
theorem execI {g:List Int}{p f:Int}{m:List Page}{y:Ins}{n z:Nat}(hT:MemT m)(hg:iY g)(hI:I64 f)(hf:bh f=true)(hV:ExV y n)(hz:y.size=z)(hok:aV ((y,()),())=some (true,())):
  ∃(g':List Int) (p' f':Int) (m':List Page),dl (((g,(p,(f,()))),((m,()),(y,()))),())=some (((g',(p',(f',()))),((),((exM g p f m y n z).1.code,()))),(m',((exM g p f m y n z).1.l,())))∧
   ((exM g p f m y n z).1.code=0→p'=(exM g p f m y n z).2.1):=by
 have hl:=hT.len
 have e1:=(exec_m (rip:=p) hT hg hI hf hV hz).1
 obtain⟨e,he⟩:∃e,e=exM g p f m y n z:=⟨_,rfl⟩
 rw[←he]at e1⊢
 clear he
 unfold dl
 dsimp only
 rw[ta,hf,af]
 dsimp only
 rw[bP,aL,ml m (by omega) (by unfold F;omega),hT.ok,af]
 dsimp only
 rw[bP,af,aL,hok,af]
 dsimp only
 rw[bP,af,aL,e1,af]
 unfold exR
 by_cases hc:e.1.code=0
 ·rw[if_neg (by simpa using hc),hc]
  exact⟨e.1.g,e.2.1,e.2.2,e.1.m,rfl,fun _=>rfl⟩
 ·rw[if_pos hc]
  exact⟨g,p,f,m,rfl,fun h=>absurd h hc⟩
theorem szO_all:∀n,n<45→1≤n→∀z∈szL (szK n),(0:Int)≤z:=by decide +kernel
theorem uM (p L i:Int):aF .i64 (aF .i64 p L) i=aF .i64 p (aT .i64 (aF .i64 (aF .i64 20000 L) i) 20000):=by
 unfold aF aT
 refine lV ?_
 have e1:=jI (p+L)
 have e2:=jI (20000+L)
 have e3:=jI (IntKind.wrap .i64 (20000+L)+i)
 have e4:=jI (IntKind.wrap .i64 (IntKind.wrap .i64 (20000+L)+i)-20000)
 omega
theorem sJ (code more:List Int)(hc:∀b∈code,0≤b∧b≤255)(hm:∀b∈more,0≤b∧b≤255):bL ((code,(more,())),())=some (true,()):=by
 suffices H:Ret (bL ((code,(more,())),())) (· =(true,()))from H.eq
 unfold bL
 dsimp only
 simp only[cQ]
 rw[fP,af]
 refine Ret.br (fun _=>Ret.some rfl) fun hb=>?_
 rw[Bool.or_eq_false_iff,zh,zh]at hb
 have hcB:fk code:=⟨hc,by omega⟩
 have hmB:fk more:=⟨hm,by omega⟩
 refine Ret.bnd (qw hcB) ?_
 rintro _ ⟨g,p,f,rfl,hg,hp,hf,hfb⟩
 refine Ret.bnd (show Ret (bY _) _ from mG hmB) ?_
 rintro _ ⟨ps,rfl,hD⟩
 have hT:=hD.memT.1
 refine Ret.bnd (show Ret (cz _) _ from ph hmB) ?_
 rintro⟨x,_⟩ ⟨hi,n,n1,n2,hn,hP⟩
 refine Ret.bnd (at_ret hmB 0 9 (by decide) (by decide) (by decide)) ?_
 rintro⟨L,_⟩ ⟨l0,l1⟩
 dsimp only at hi hn hP l0 l1⊢
 obtain⟨y,hy⟩:∃y,y=Ins.mk x.op x.size x.cond x.frm x.dst x.src L:=⟨_,rfl⟩
 have hyP:oJ y n:=by
  obtain⟨_,_,r⟩:=hP
  rw[hy]
  exact⟨l0,(by show L≤15;omega),r⟩
 have hyn:y.op=n:=by rw[hy];exact hn
 have hyi:I64 y.dst.imm∧I64 y.src.imm:=by rw[hy];exact hi
 have hyd:I64 y.dst.disp∧I64 y.src.disp:=by
  obtain⟨_,_,_,_,_,_,_,a,b,_⟩:=hyP
  unfold j9 opB kF at a b
  unfold I64
  constructor<;>omega
 have hV:=ExV_of hyn n1 n2 hyP ⟨hyd.1,hyi.1,hyd.2,hyi.2⟩
 have hsh:=hyP.2.2.1
 unfold shB at hsh
 simp only[Bool.and_eq_true,decide_eq_true_eq]at hsh
 have hU:=y6 n1 n2 hsh.2.1
 obtain⟨u1,_,u3,_,u5⟩:=of_decide_eq_true hU
 obtain⟨z,hz⟩:∃z:Nat,y.size=z:=⟨y.size.toNat,by have:=szO_all n n2 n1 _ hsh.1;omega⟩
 have hyo:y.op=x.op:=by rw[hy]
 have hyl:y.len=L:=by rw[hy]
 have hins:iD (x.op,(x.size,(x.cond,(x.frm,(ck x.dst (ck x.src (L,())))))))=y:=by rw[hy];rfl
 rw[←hy]
 have M1:=memOf_i n1 n2 hyn hyP hyd.1 hyd.2
 have M2:=memOf_r n1 n2 hyn hyP
 have G1:=yQ n1 n2 hyn hyP hyd.1 hyd.2
 have G2:=yR n1 n2 hyn hyP
 have T1:=sX n1 n2 hyn hyP hyd.1 hyd.2
 have T2:=sY n1 n2 hyn hyP u5
 obtain⟨g',p',f',m',E,hp'⟩:=execI hT hg hf hfb hV hz (ok_i n1 n2 hyn hyP hyd.1 hyd.2)
 rw[M1,af,M2,af,E,af]
 have hcc:∀a:Int,eqI a a=true:=fun a=>bU rfl
 dsimp only
 simp only[hcc,vO,z5,bP,aL,af]
 refine Ret.bnd (Q:=fun b=>b=true→(zj y n).2=true∧n≠30) (Ret.br (fun h=>Ret.some fun h30=>⟨h,?_⟩) fun _=>Ret.some fun h=>by cases h) fun b12 h12=>?_
 ·rw[cE,oc]at h30
  omega
 refine Ret.bnd (Q:=fun b=>b=true→b12=true∧(0:Int)<((exM g p f ps y n z).1.l.length:Int)) (Ret.br (fun h=>Ret.some fun hl=>⟨h,by rwa [mb]at hl⟩) fun _=>Ret.some fun h=>by cases h) fun b13 h13=>?_
 refine Ret.bnd (Q:=fun y17=>y17=Sum.inl (((exM g p f ps y n z).1.code,()),((g,(p,(f,()))),((x.op,(x.size,(x.cond,(x.frm,(ck x.dst (ck x.src (L,()))))))),((g',(p',(f',()))),()))))) ?_ ?_
 ·
  refine Ret.br (fun h=>?_) fun _=>Ret.some rfl
  obtain⟨hb12,hl⟩:=h13 h
  obtain⟨hm2,h30⟩:=h12 hb12
  rw[xk,af]
  obtain⟨o,ho,hoe⟩:∃o:Opd,(y.dst.kind=2∧o=y.dst∨y.dst.kind≠2∧y.src.kind=2∧o=y.src)∧(zj y n).1=ck o ()∧n≠25:=by
   unfold zj at hm2⊢
   by_cases a:n=25
   ·rw[if_pos a]at hm2;cases hm2
   ·rw[if_neg a]at hm2⊢
    by_cases b:y.dst.kind=2
    ·rw[if_pos b];exact⟨y.dst,.inl ⟨b,rfl⟩,rfl,a⟩
    ·rw[if_neg b]at hm2⊢
     by_cases c:y.src.kind=2
     ·rw[if_pos c];exact⟨y.src,.inr ⟨b,c,rfl⟩,rfl,a⟩
     ·rw[if_neg c]at hm2;cases hm2
  have hmem:kF o.kind o.reg o.base o.index o.scale o.disp o.imm∧I64 o.disp:=by
   obtain⟨_,_,_,_,_,_,_,a,b,_⟩:=hyP
   rcases ho with ⟨h,rfl⟩|⟨_,h,rfl⟩
   ·refine⟨?_,hyd.1⟩
    unfold j9 opB at a
    rcases a with a|a|a|a
    ·omega
    ·exact a
    ·omega
    ·omega
   ·refine⟨?_,hyd.2⟩
    unfold j9 opB at b
    rcases b with b|b|b|b
    ·omega
    ·exact b
    ·omega
    ·omega
  rw[hoe.1,rR hfb hmem.2 hmem.1,af]
  have hH:=yS (g:=g) (rip:=p) (fl:=f) (m:=ps) (z:=z) hV hU hoe.2 h30 ho
  rw[hyl]at hH
  generalize (exM g p f ps y n z).1.l=l at hl hH⊢
  cases l with
  |nil=>exact absurd hl (by simp)
  |cons a r=>
   have ha:=hH a r rfl
   dsimp only
   rw[hcc,bP,aL,ag (cj (by decide) hl)]
   rw[show aQ (a::r) 0 (aD .acc)=a from rfl,ha,hcc,bP,af,aL]
   exact Ret.some rfl
 rintro _ rfl
 rw[aE]
 dsimp only
 rw[hins,G1,G2,T1,T2]
 simp only[hcc,vO,z5,bP,aL,af]
 have hx28:br (Av y n).2 (some (Aa y n)) (some false)=some false:=by
  unfold Av Aa
  by_cases a:(n=31∨n=32)∧y.src.kind≠3
  ·rw[if_pos a,decide_eq_false (fun h=>a.2 h.2)];rfl
  ·rw[if_neg a];rfl
 rw[hx28]
 simp only[af,aL]
 refine Ret.bnd (Q:=fun b=>b=true→Aa y n=true∧(exM g p f ps y n z).1.code=0) (Ret.br (fun h=>Ret.some fun hl=>⟨h,by rwa [ca]at hl⟩) fun _=>Ret.some fun h=>by cases h) fun b29 h29=>?_
 refine Ret.bnd (Q:=fun b=>b=true→b29=true∧n≠33) (Ret.br (fun h=>Ret.some fun h33=>⟨h,?_⟩) fun _=>Ret.some fun h=>by cases h) fun b30 h30=>?_
 ·rw[cE,oc]at h33
  omega
 refine Ret.br (fun h=>?_) fun _=>Ret.some rfl
 obtain⟨hb29,h33⟩:=h30 h
 obtain⟨hj,hcode⟩:=h29 hb29
 have hgv:wj y n=aF .i64 (aF .i64 20000 y.len) y.src.imm:=if_pos hj
 obtain⟨hfl,hs3⟩:=of_decide_eq_true hj
 have hp2:=hp' hcode
 have hgo:(MS.mk g ps 0 []).go (aF .i64 p y.len) y=(aF .i64 (aF .i64 p y.len) y.src.imm,MS.mk g ps 0 []):=if_pos hs3
 have hrip:(exM g p f ps y n z).2.1=aF .i64 (aF .i64 p y.len) y.src.imm:=by
  have hc:n=31∨n=32:=by omega
  rcases hc with rfl|rfl
  ·unfold exM
   dsimp only
   rw[if_neg (show ¬mvB 31=true by decide),if_neg (show ¬wdB 31=true by decide),if_pos (show fwB 31=true by decide)]
   unfold MS.flow
   rw[if_neg (by decide),if_neg (by decide),if_pos rfl,hgo]
  ·unfold exM
   dsimp only
   rw[if_neg (show ¬mvB 32=true by decide),if_neg (show ¬wdB 32=true by decide),if_pos (show fwB 32=true by decide)]
   unfold MS.flow
   rw[if_neg (by decide),if_neg (by decide),if_neg (by decide),if_neg (by decide),if_pos rfl,hgo]
 rw[xk,af,hp2,hrip,hgv,←uM,hcc]
 exact Ret.some rfl
theorem pV (y:VTL.Ty [.list .u,.list .u])(h:VTL.wf [.list .u,.list .u] y):bL (y,())=some (true,()):=by
 obtain⟨code,more,_⟩:=y
 obtain⟨⟨_,h1⟩,⟨_,h2⟩,_⟩:=h
 exact sJ code more (fun b hb=>zZ (h1 b hb)) (fun b hb=>zZ (h2 b hb))
end
end Go.Den.G
