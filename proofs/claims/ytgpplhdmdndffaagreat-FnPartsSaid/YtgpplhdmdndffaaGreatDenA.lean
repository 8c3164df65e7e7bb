/- Theory for the proofs of this claim: see its last text. -/
import Derived.Calls
import Derived.Orders
import Derived.Lib.AtoiAll
import Derived.Lib.Split
import Derived.Lib.Join
import Derived.Lib.IndexMore
import Derived.Lib.ItoaNum
import Derived.Lib.RepeatB
set_option linter.unusedSimpArgs false
namespace Go.Den
abbrev aa:= @if_pos
abbrev ae:= @if_neg
abbrev ar:= @Bool.and_eq_true
abbrev bj:= @List.getElem?_eq_some_iff
abbrev aw:= @Option.some.inj
abbrev aG:= @decide_eq_true_eq
abbrev aF:= @decide_eq_true
abbrev bt:= @List.mem_cons_of_mem
abbrev aP:= @decide_eq_false
abbrev bu:= @Int.toNat_natCast
abbrev bh:= @of_decide_eq_true
abbrev bq:= @List.mem_cons_self
abbrev bU:= @Int.eq_ofNat_of_zero_le
abbrev aN:= @List.mem_cons
abbrev co:= @List.getElem?_eq_getElem
abbrev ah:= @absurd
abbrev bv:= @Bool.eq_iff_iff
abbrev cw:= @List.mem_of_getElem?
abbrev ch:= @List.length_append
abbrev cb:= @Nat.mod_eq_of_lt
abbrev ec:= @List.getD_eq_getElem?_getD
abbrev cx:= @List.mem_singleton
abbrev cX:= @Nat.pow_le_pow_right
abbrev ed:= @Nat.mul_le_mul_right
abbrev cE:= @Nat.two_pow_pos
abbrev dB:= @Nat.lt_of_lt_of_le
abbrev cN:= @Nat.not_lt_zero
abbrev cO:= @Bool.or_eq_true
abbrev bV:= @Nat.le_refl
abbrev ef:= @Bool.not_eq_true'
abbrev fF:= @List.getElem?_eq_none
abbrev dM:= @Int.natCast_emod
abbrev ci:= @Nat.add_mul
abbrev gb:= @List.mem_append_right
abbrev i7:= @Int.fdiv_eq_ediv_of_nonneg
abbrev eZ:= @Int.emod_lt_of_pos
abbrev cH:= @Nat.mul_comm
abbrev eg:= @Int.emod_nonneg
abbrev cP:= @Nat.pow_succ
abbrev gP:= @Int.emod_emod_of_dvd
abbrev cr:= @Nat.mod_lt
abbrev cI:= @Int.pow_pos
abbrev fa:= @List.length_cons
abbrev fc:= @List.all_eq_true
abbrev gd:= @BitVec.toNat_ofInt
abbrev ly:= @List.eq_nil_of_length_eq_zero
abbrev iw:= @List.mem_append_left
abbrev fG:= @List.getElem_mem
abbrev fH:= @List.length_drop
abbrev i9:= @Nat.le_of_ble_eq_true
abbrev gQ:= @Nat.lt_of_le_of_lt
abbrev dN:= @Nat.le_trans
abbrev lA:= @Nat.two_pow_add_eq_or_of_lt
abbrev ja:= @Nat.div_lt_of_lt_mul
abbrev ge:= @List.length_take
abbrev gf:= @Int.natCast_ediv
abbrev gg:= @List.not_mem_nil
abbrev jM:= @Nat.div_lt_iff_lt_mul
abbrev lB:= @List.getElem?_append_left
abbrev oA:= @Nat.testBit_eq_decide_div_mod_eq
abbrev eP:= @Nat.zero_add
abbrev jN:= @List.getElem_of_mem
abbrev mQ:= @List.getElem?_append_right
abbrev mR:= @Array.getElem?_eq_some_iff
abbrev mS:= @Int.tmod_eq_emod_of_nonneg
abbrev mU:= @Nat.mod_mul_right_div_self
abbrev jb:= @Int.emod_eq_of_lt
abbrev eB:= @Nat.mul_one
abbrev eD:= @Nat.pow_add
abbrev iy:= @List.map_append
abbrev kz:= @Int.toNat_of_nonneg
abbrev jO:= @Bool.eq_false_iff
abbrev jc:= @List.mem_append
abbrev jP:= @Nat.div_add_mod'
abbrev lC:= @Nat.div_mul_le_self
abbrev iz:= @Nat.add_assoc
abbrev gR:= @List.mem_map
abbrev mV:= @List.getElem?_set_ne
abbrev oB:= @List.getElem?_cons_zero
abbrev iA:= @Nat.add_zero
abbrev lD:= @List.getElem?_map
abbrev oC:= @Nat.div_div_eq_div_mul
abbrev kA:= @List.length_nil
abbrev px:= @List.getElem?_eq_none_iff
abbrev py:= @List.drop_eq_getElem_cons
abbrev mW:= @List.getElem?_drop
abbrev mX:= @Nat.mod_mod_of_dvd
abbrev jQ:= @List.map_cons
abbrev jd:= @Nat.sub_self
abbrev jR:= @Bool.true_and
abbrev je:= @Int.le_of_lt
abbrev jf:= @Int.ne_of_gt
abbrev oD:= @List.getElem?_append
abbrev lE:= @List.length_map
abbrev sa:= @Array.getD_eq_getD_getElem?
abbrev jS:= @Int.pow_succ
abbrev jg:= @Nat.one_mul
abbrev kB:= @Bool.not_true
abbrev jh:= @Int.pow_add
abbrev mY:= @Nat.div_eq_of_lt
abbrev mw:= @List.getElem?_take
abbrev qm:= @Array.getElem?_append_left
abbrev nZ:= @Nat.le_div_iff_mul_le
abbrev qn:= @Nat.add_mul_mod_self_left
abbrev iG:= @Nat.zero_le
abbrev oc:= @Bool.or_eq_false_iff
abbrev gO:= @Nat.blt_eq
abbrev qo:= @List.getElem?_take_of_lt
abbrev j9:= @Int.emod_emod
abbrev sO:= @Array.getElem?_setIfInBounds_ne
abbrev oe:= @Nat.mul_le_mul_left
abbrev my:= @Bool.not_eq_true
abbrev qp:= @List.getElem?_cons_succ
abbrev qq:= @Option.bind_eq_some_iff
abbrev qr:= @Nat.testBit_mod_two_pow
abbrev og:= @Bool.false_eq_true
abbrev qt:= @Int.ediv_eq_iff_of_pos
abbrev qu:= @Int.ediv_eq_zero_of_lt
abbrev oh:= @BitVec.getLsbD_and
abbrev ka:= @Int.ofNat_lt
abbrev mz:= @Nat.div_add_mod
abbrev mA:= @List.nodup_cons
abbrev kT:= @Bool.false_or
abbrev kU:= @Nat.mul_assoc
abbrev qv:= @BitVec.eq_of_toNat_eq
abbrev qw:= @Int.add_mul_ediv_left
abbrev oi:= @List.getElem?_set
abbrev mB:= @Nat.mul_le_mul
abbrev sP:= @Nat.mod_two_eq_zero_or_one
abbrev kb:= @Nat.mul_add
abbrev qx:= @Nat.add_mul_div_left
abbrev ol:= @List.cons_append
abbrev om:= @BitVec.toNat_and
abbrev oo:= @Nat.div_le_self
abbrev oq:= @BitVec.toNat_or
abbrev ot:= @Nat.pow_dvd_pow
abbrev sQ:= @List.getElem?_replicate
abbrev kV:= @Nat.le_succ
abbrev sR:= @Array.getElem?_eq_none
abbrev sS:= @List.length_eq_one_iff
abbrev sT:= @List.getElem?_set_self
abbrev qy:= @List.ext_getElem?
abbrev qz:= @List.append_assoc
abbrev mC:= @Int.add_zero
abbrev mD:= @Nat.mul_zero
abbrev sU:= @List.take_append_drop
abbrev sV:= @List.set_append_right
abbrev sW:= @Bool.and_eq_false_iff
abbrev qA:= @Option.bind_some
abbrev qB:= @Nat.lt_succ_self
abbrev qC:= @Nat.mod_pow_succ
abbrev sX:= @List.getElem?_of_mem
abbrev mE:= @Nat.mod_mod
abbrev mF:= @Nat.div_one
abbrev qD:= @List.append_nil
abbrev qE:= @Int.ediv_nonneg
abbrev qF:= @List.range_succ
abbrev sY:= @List.take_succ_cons
abbrev sZ:= @Nat.xor_mod_two_pow
abbrev ou:= @Nat.add_comm
abbrev ov:= @Nat.lt_trans
abbrev ow:= @Int.le_trans
abbrev qG:= @Bool.and_assoc
abbrev oz:= @Int.le_refl
abbrev qH:= @Nat.lt_irrefl
def br {α:Type}(c:Bool)(x y:α):α:=cond c x y
def bnd {α β:Type}(x:Option α)(f:α->Option β):Option β:=x.bind f
noncomputable def eqO {α:Type}(x y:Option α):Option α:= @ite _ (x=y) (Classical.propDecidable _) x none
def ba {α β γ:Type}(z:Sum α β)(f:α->γ)(g:β->γ):γ:=match z with
 | .inl x=>f x
 | .inr y=>g y
def iter {σ α:Type}:Nat->((σ->Option α)->σ->Option α)->σ->Option α
 |0,_,_=>none
 |n+1,f,x=>f (iter n f) x
def ltI (a b:Int):Bool:=decide (a<b)
def leI (a b:Int):Bool:=decide (a<=b)
def eqI (a b:Int):Bool:=decide (a=b)
def eqB (a b:Bool):Bool:=a==b
def eqS (a b:List UInt8):Bool:=decide (a=b)
def eqA (n:Nat)(xs ys:List Int):Bool:=decide ((List.range n).map (xs.getD · 0)=(List.range n).map (ys.getD · 0))
def lessS (a b:List UInt8):Bool:=Op.bytesLess a b
def bm (a:Bool):Bool:= !a
def kC (a b:Bool):Bool:=a&&b
def an (k:IntKind)(a:Int):Int:=k.wrap a
def aL (k:IntKind)(a b:Int):Int:=k.wrap (a+b)
def bo (k:IntKind)(a b:Int):Int:=k.wrap (a-b)
def cj (k:IntKind)(a b:Int):Int:=k.wrap (a*b)
def nn (k:IntKind)(a b:Int):Int:=k.wrap (a.tdiv b)
def gC (a b:Int):Int:=a.tmod b
def dP (k:IntKind)(a b:Int):Int:=k.wrap (BitVec.ofInt k.bits a&&& BitVec.ofInt k.bits b).toNat
def ior (k:IntKind)(a b:Int):Int:=k.wrap (BitVec.ofInt k.bits a|||BitVec.ofInt k.bits b).toNat
def vA (k:IntKind)(a b:Int):Int:=k.wrap (BitVec.ofInt k.bits a ^^^BitVec.ofInt k.bits b).toNat
def jy (k:IntKind)(a b:Int):Int:=k.wrap (BitVec.ofInt k.bits a&&& ~~~BitVec.ofInt k.bits b).toNat
def AR (k:IntKind)(a:Int):Int:=vA k (if k.signed then -1 else k.max) a
def eW (k:IntKind)(a b:Int):Int:=k.wrap (a*2^(min b.toNat k.bits))
def dC (k:IntKind)(a b:Int):Int:=a.fdiv (2^(min b.toNat k.bits))
def jp (x y:Int):Int:=if y<x then y else x
def F7 (x y:Int):Int:=if y>x then y else x
def l6 (xs:List Int):List UInt8:=xs.map fun n=>UInt8.ofNat n.toNat
def wB (s:List UInt8):List Int:=s.map fun b=>(b.toNat:Int)
def gi (s:List UInt8)(i:Int):Int:=(s.getD i.toNat 0).toNat
def inR (n len:Int):Bool:=decide (0<=n)&&decide (n<len)
def inC (n len:Int):Bool:=decide (0<=n)&&decide (n<=len)
def da {α:Type}(xs:List α):Int:=xs.length
def bk {α:Type}(xs:List α)(i:Int)(d:α):α:=xs.getD i.toNat d
def eM {α:Type}(xs:List α)(i:Int)(v:α):List α:=xs.set i.toNat v
def gj {α:Type}(n:Nat)(d:α)(xs:List α):List α:=xs++List.replicate (n-xs.length) d
def eI {α:Type}(xs ys:List α):List α:=xs++ys
def k9 {α:Type}(xs:List α)(h:Int):List α:=xs.take h.toNat
def nq {α:Type}(xs:List α)(l:Int):List α:=xs.drop l.toNat
def wt {α:Type}(n:Int)(x:α):List α:=List.replicate n.toNat x
def clrL {α:Type}(xs:List α)(n:Int)(d:α):List α:=k9 xs n++wt (da xs-n) d
def BG {α:Type}:List (Int×α)->Int->α->α
 |[],_,d=>d
 |e::r,k,d=>if e.1=k then e.2 else BG r k d
def yE {α:Type}:List (Int×α)->Int->Bool
 |[],_=>false
 |e::r,k=>if e.1=k then true else yE r k
def wA {α:Type}:List (Int×α)->Int->α->List (Int×α)
 |[],k,v=>[(k,v)]
 |e::r,k,v=>if e.1=k then(k,v)::r else e::wA r k v
def lim:Int:=549755813888
def fits {α:Type}(xs:List α):Bool:=decide ((xs.length:Int)<=lim)
def dO {α β:Type}(xs:List α)(ys:List β):Bool:=decide ((xs.length:Int)+ys.length<=lim)
def D3 (c:Int):Bool:=decide (c<=lim)
def joinS (xs:List (List UInt8))(p:List UInt8):List UInt8:=Go.Lib.join xs p
def joinLim (xs:List (List UInt8))(p:List UInt8):Bool:=decide (xs.length<=140737488355328/\(Go.Lib.join xs p).length<=140737488355328)
def hasS (s p:List UInt8):Bool:=Go.Lib.contains s p
def hasLim (s:List UInt8):Bool:=decide (s.length<4294967281)
def y4 (n:Int):Bool:=decide (0<=n/\n<18446744073709551616)
def EN (n:Int):Bool:=decide (0<=n/\n<=1)
def uU (a b c:Int):Int:=(a+b+c)%18446744073709551616
def zg (a b c:Int):Int:=(a+b+c)/18446744073709551616
def rB (a b c:Int):Int:=(a+18446744073709551616-b-c)%18446744073709551616
def pw (a b c:Int):Int:=if a<b+c then 1 else 0
end Go.Den
namespace Go.Den
structure Page where
 base:Int
 perm:Int
 data:List UInt8
structure Opd where
 kind:Int
 reg:Int
 base:Int
 index:Int
 scale:Int
 disp:Int
 imm:Int
structure Ins where
 op:Int
 size:Int
 cond:Int
 frm:Int
 dst:Opd
 src:Opd
 len:Int
structure Acc where
 kind:Int
 addr:Int
 size:Int
 val:Int
structure Seg where
 flags:Int
 vaddr:Int
 memsz:Int
 data:List UInt8
structure Stm where
 kind:Int
 a:Int
 b:Int
 c:Int
structure Itm where
 off:Int
 x:Ins
structure Brc where
 step:Int
 kind:Int
structure Grp where
 list:List Ins
 goal:Int
 jump:Bool
 call:Bool
inductive Tag where
 |i|u|b|s|page|ins|acc|seg|stm|itm|brc|grp
 deriving DecidableEq
@[reducible] def El:Tag->Type
 | .i=>Int
 | .u=>Int
 | .b=>Bool
 | .s=>List UInt8
 | .page=>Page
 | .ins=>Ins
 | .acc=>Acc
 | .seg=>Seg
 | .stm=>Stm
 | .itm=>Itm
 | .brc=>Brc
 | .grp=>Grp
inductive AV where
 |bool (b:Bool)
 |int (k:IntKind) (n:Int)
 |str (s:List UInt8)
 |nilp
 |ptr (b off:Nat)
 |ptrI (b off n:Nat) (i:Int)
 |ptrE (b:Nat) (t:Tag) (i:Int) (off:Nat)
 |ptrL (t:Tag) (xs:List (El t)) (i:Int) (off:Nat)
 |nils
 |list (t:Tag) (xs:List (El t))
 |vec (b:Nat)
 |pre (b:Nat) (n:Int)
 |suf (b:Nat) (n:Int)
 |arr (t:Tag) (n:Nat) (xs:List (El t))
 |func (fn:Fn) (first cap:List AV)
 |nilf
 |err (isnil:Bool)
 |mapr (b:Nat)
 |dead
 |anyb (p d:Bool)
 |agg (cs:List AV)
 |tup (vs:List AV)
 deriving Inhabited
def i64 (n:Int):AV:= .int .i64 n
def HN (x:Ins):List AV:=
 [.int .i64 x.op,.int .i64 x.size,.int .i64 x.cond,.int .i64 x.frm,
  .int .i64 x.dst.kind,.int .i64 x.dst.reg,.int .i64 x.dst.base,.int .i64 x.dst.index,.int .i64 x.dst.scale,.int .i64 x.dst.disp,.int .i64 x.dst.imm,
  .int .i64 x.src.kind,.int .i64 x.src.reg,.int .i64 x.src.base,.int .i64 x.src.index,.int .i64 x.src.scale,.int .i64 x.src.disp,.int .i64 x.src.imm,
  .int .i64 x.len]
def enc:(t:Tag)->El t->List AV
 | .i,x=>[.int .i64 x]
 | .u,x=>[.int .u8 x]
 | .b,x=>[.bool x]
 | .s,x=>[.str x]
 | .page,x=>[.int .i64 x.base,.int .i64 x.perm,.str x.data]
 | .ins,x=>HN x
 | .acc,x=>[.int .i64 x.kind,.int .i64 x.addr,.int .i64 x.size,.int .i64 x.val]
 | .seg,x=>[.int .i64 x.flags,.int .i64 x.vaddr,.int .i64 x.memsz,.str x.data]
 | .stm,x=>[.int .i64 x.kind,.int .i64 x.a,.int .i64 x.b,.int .i64 x.c]
 | .itm,x=> .int .i64 x.off::HN x.x
 | .brc,x=>[.int .i64 x.step,.int .i64 x.kind]
 | .grp,x=>[.list .ins x.list,.int .i64 x.goal,.bool x.jump,.bool x.call]
def decI:List AV->Option Ins
 |[.int .i64 a0,.int .i64 a1,.int .i64 a2,.int .i64 a3,.int .i64 d0,.int .i64 d1,.int .i64 d2,.int .i64 d3,.int .i64 d4,.int .i64 d5,.int .i64 d6,
   .int .i64 s0,.int .i64 s1,.int .i64 s2,.int .i64 s3,.int .i64 s4,.int .i64 s5,.int .i64 s6,.int .i64 l]=>
  some ⟨a0,a1,a2,a3,⟨d0,d1,d2,d3,d4,d5,d6⟩,⟨s0,s1,s2,s3,s4,s5,s6⟩,l⟩
 |_=>none
def dec:(t:Tag)->List AV->Option (El t)
 | .i,[.int .i64 x]=>some x
 | .u,[.int .u8 x]=>some x
 | .b,[.bool x]=>some x
 | .s,[.str x]=>some x
 | .page,[.int .i64 a,.int .i64 b,.str c]=>some ⟨a,b,c⟩
 | .ins,cs=>decI cs
 | .acc,[.int .i64 a,.int .i64 b,.int .i64 c,.int .i64 d]=>some ⟨a,b,c,d⟩
 | .seg,[.int .i64 a,.int .i64 b,.int .i64 c,.str d]=>some ⟨a,b,c,d⟩
 | .stm,[.int .i64 a,.int .i64 b,.int .i64 c,.int .i64 d]=>some ⟨a,b,c,d⟩
 | .itm,.int .i64 o::cs=>match decI cs with|some x=>some ⟨o,x⟩|none=>none
 | .brc,[.int .i64 a,.int .i64 b]=>some ⟨a,b⟩
 | .grp,[.list .ins l,.int .i64 g,.bool j,.bool c]=>some ⟨l,g,j,c⟩
 | .grp,[.nils,.int .i64 g,.bool j,.bool c]=>some ⟨[],g,j,c⟩
 |_,_=>none
def dfltO:Opd:=⟨0,0,0,0,0,0,0⟩
def xW:Ins:=⟨0,0,0,0,dfltO,dfltO,0⟩
def aJ:(t:Tag)->El t
 | .i=>(0:Int)
 | .u=>(0:Int)
 | .b=>false
 | .s=>([]:List UInt8)
 | .page=>⟨0,0,[]⟩
 | .ins=>xW
 | .acc=>⟨0,0,0,0⟩
 | .seg=>⟨0,0,0,[]⟩
 | .stm=>⟨0,0,0,0⟩
 | .itm=>⟨0,xW⟩
 | .brc=>⟨0,0⟩
 | .grp=>⟨[],0,false,false⟩
def esz:Tag->Nat
 | .i| .u| .b| .s=>1
 | .page=>3
 | .ins=>19
 | .acc| .seg| .stm| .grp=>4
 | .itm=>20
 | .brc=>2
def AV.width:AV->Nat
 | .arr _ n _=>n
 |_=>1
inductive Blk where
 |gone
 |var (cs:List AV)
 |row (t:Tag) (xs:List (El t)) (froz:Bool)
 |rowA (cs:List AV)
 |map (t:Tag) (es:List (Int×El t))
inductive TD where
 |bool|int (k:IntKind)|str|ptr (e:TypeId)|fn|iface
 |slice (e:TypeId)
 |array (n:Nat) (e:TypeId)
 |struct (fs:List (Nat×TypeId))
 |map (k e:TypeId)
 deriving Inhabited
structure TI where
 d:TD
 size:Nat
 bytes:Nat
 zero:List AV
 tag:Option Tag
 eqk:Bool
inductive Tr.{u}(α:Type u):Type u where
 |lf
 |nd (k:Nat) (v:α) (l r:Tr α)
def Tr.get.{u}{α:Type u}:Tr α->Nat->Option α
 | .lf,_=>none
 | .nd k v l r,i=>match Nat.beq i k with
  |true=>some v
  |false=>match Nat.blt i k with
   |true=>l.get i
   |false=>r.get i
def TI.agg (i:TI):Bool:=match i.d with
 | .struct _| .array _ _=>true
 |_=>false
def pK:IntKind->IntKind->Bool
 | .i8,.i8| .i16,.i16| .i32,.i32| .i64,.i64| .u8,.u8| .u16,.u16| .u32,.u32| .u64,.u64=>true
 |_,_=>false
def JU:Tag->Tag->Bool
 | .i,.i| .u,.u| .b,.b| .s,.s| .page,.page| .ins,.ins| .acc,.acc| .seg,.seg| .stm,.stm| .itm,.itm| .brc,.brc| .grp,.grp=>true
 |_,_=>false
def nth.{u}{α:Type u}:List α->Nat->Option α
 |[],_=>none
 |a::_,0=>some a
 |_::r,i+1=>nth r i
def wx (o:Option Tag)(t:Tag):Bool:=match o with
 |some x=>JU x t
 |none=>false
def HO:List AV->Nat->Option Nat
 |_,0=>some 0
 |a::as,o+1=>match Nat.ble a.width (o+1)with
  |true=>match HO as (o+1-a.width)with
   |some i=>some (i+1)
   |none=>none
  |false=>none
 |[],_+1=>none
def bw:List AV->Nat
 |[]=>0
 |a::as=>a.width+bw as
def dropN.{u}{α:Type u}:Nat->List α->List α
 |0,l=>l
 |_+1,[]=>[]
 |n+1,_::r=>dropN n r
def takeN.{u}{α:Type u}:Nat->List α->List α
 |0,_=>[]
 |_+1,[]=>[]
 |n+1,a::r=>a::takeN n r
def setN.{u}{α:Type u}:List α->Nat->α->List α
 |[],_,_=>[]
 |_::r,0,v=>v::r
 |a::r,i+1,v=>a::setN r i v
def uq (cs:List AV)(o n:Nat):Option (Nat×List AV):=match HO cs o with
 |some i=>match HO (dropN i cs) n with
  |some m=>some (i,takeN m (dropN i cs))
  |none=>none
 |none=>none
def yV:List AV->List AV->Bool
 |[],[]=>true
 |a::as,b::bs=>match Nat.beq a.width b.width with
  |true=>yV as bs
  |false=>false
 |_,_=>false
end Go.Den
namespace Go.Den
def vO:Value->Option AV
 | .bool b=>some (.bool b)
 | .int k n=>some (.int k n)
 | .string s=>some (.str s.data.toList)
 | .pointer none=>some .nilp
 | .slice none 0 0=>some .nils
 | .nilFunc=>some .nilf
 | .nilIface=>some (.err true)
 |_=>none
def tG:List Value->Option (List AV)
 |[]=>some []
 |v::r=>match vO v,tG r with
  |some a,some l=>some (a::l)
  |_,_=>none
def Kv:Option AV->AV
 |some a=>a
 |none=> .dead
def ofValue:Value->AV
 | .agg cs=>match tG cs.toList with
  |some l=> .agg l
  |none=> .dead
 |v=>Kv (vO v)
def look.{u}{α:Type u}:List (Nat×α)->Nat->Option α
 |[],_=>none
 |(k,v)::r,i=>match Nat.beq k i with
  |true=>some v
  |false=>look r i
structure St where
 t:List (Nat×AV)
 h:List (Nat×Blk)
 n:Nat
 np:Nat
 al:List (Nat×Nat×Nat)
 w:Bool
def St.get (s:St)(i:Nat):AV:=match look s.t i with
 |some v=>v
 |none=> .dead
def St.ev (s:St):Operand->AV
 | .tmp t=>s.get t
 | .const v=>ofValue v
 | .func f=> .func (.func f) [] []
 | .global _=> .dead
def St.blk (s:St)(b:Nat):Blk:=match look s.h b with
 |some v=>v
 |none=> .gone
def St.put (s:St)(d:Option Tmp)(v:AV):St:=match d with
 |some i=>{s with t:=(i,v)::s.t}
 |none=>s
inductive WU where
 |blk (b:Blk)
 |set (i:Nat) (v:AV)
structure Eff where
 v:AV
 upd:List (Nat×WU)
 new:List Blk
inductive OpRes where
 |none
 |ret (asks:List Bool) (e:Eff)
 |call (g:FuncId) (args:List AV) (hs:List Blk) (fin:AV->List Blk->Option Eff)
def WU.app:WU->Blk->Blk
 | .blk b,_=>b
 | .set i v,.var cs=> .var (setN cs i v)
 | .set i v,.rowA cs=> .rowA (setN cs i v)
 | .set _ _,b=>b
def iM:Nat->List Blk->List (Nat×Blk)->List (Nat×Blk)
 |_,[],r=>r
 |n,b::bs,r=>iM (n+1) bs ((n,b)::r)
def lenN.{u}{α:Type u}:List α->Nat
 |[]=>0
 |_::r=>lenN r+1
def cF:List (Nat×WU)->List (Nat×Blk)->List (Nat×Blk)
 |[],h=>h
 |(b,u)::r,h=>cF r ((b,u.app (match look h b with|some x=>x|none=> .gone))::h)
def isNil.{u}{α:Type u}:List α->Bool
 |[]=>true
 |_::_=>false
def St.apply (s:St)(d:Option Tmp)(e:Eff):St:=
 ({s with h:=iM s.n e.new (cF e.upd s.h),n:=s.n+lenN e.new,w:=match isNil e.upd with|true=>s.w|false=>true}:St).put d e.v
def val (v:AV):OpRes:= .ret [] ⟨v,[],[]⟩
def KD (agg:Bool)(r:List AV):OpRes:=match agg with
 |true=>val (.agg r)
 |false=>match r with
  |[.arr _ _ _]=> .none
  |[c]=>val c
  |_=> .none
def yB (T:Tr TI)(s:St)(t:TypeId)(a:AV):OpRes:=match T.get t with
 |none=> .none
 |some ti=>match a with
  | .ptr b off=>match s.blk b with
   | .var cs| .rowA cs=>match uq cs off ti.size with
    |some (_,r)=>KD ti.agg r
    |none=> .none
   |_=> .none
  | .ptrI b off n i=>match s.blk b with
   | .var cs=>match uq cs off n with
    |some (_,[.arr tg m xs])=>match Nat.beq n m,ti.agg with
     |true,false=>KD false (enc tg (bk xs i (aJ tg)))
     |_,_=> .none
    |_=> .none
   |_=> .none
  | .ptrE b _ i off=>match s.blk b with
   | .row tg xs _=>match uq (enc tg (bk xs i (aJ tg))) off ti.size with
    |some (_,r)=>KD ti.agg r
    |none=> .none
   |_=> .none
  | .ptrL tg xs i off=>match uq (enc tg (bk xs i (aJ tg))) off ti.size with
   |some (_,r)=>KD ti.agg r
   |none=> .none
  |_=> .none
def AV.cells:AV->List AV
 | .agg cs=>cs
 | .dead=>[]
 | .tup _=>[]
 | .arr _ _ _=>[]
 |a=>[a]
def allowed (s:St)(b lo hi:Nat):Bool:=match Nat.blt b s.np with
 |false=>true
 |true=>s.al.any fun(c,l,h)=>Nat.beq c b&&(Nat.ble l lo&&Nat.ble hi h)
def big:Nat:=1000000000
def okW (s:St)(b i n:Nat):Bool:=match s.blk b with
 | .var _=>allowed s b i (i+n)
 |_=>allowed s b 0 big
def wd (b:Nat):Nat->List AV->List (Nat×WU)
 |_,[]=>[]
 |i,a::r=>(b,.set i a)::wd b (i+1) r
def IN:List AV->Bool
 |[]=>true
 | .dead::_=>false
 |_::r=>IN r
def sJ (T:Tr TI)(s:St)(t:TypeId)(a v:AV):OpRes:=match T.get t with
 |none=> .none
 |some ti=>match Nat.beq (bw v.cells) ti.size&&(IN v.cells&& !isNil v.cells)with
  |false=> .none
  |true=>match a with
   | .ptr b off=>match s.blk b with
    | .var cs| .rowA cs=>match uq cs off ti.size with
     |some (i,r)=>match yV r v.cells,okW s b i (lenN r)with
      |true,true=> .ret [] ⟨.dead,wd b i v.cells,[]⟩
      |_,_=> .none
     |none=> .none
    |_=> .none
   | .ptrI b off n j=>match s.blk b with
    | .var cs=>match uq cs off n with
     |some (i,[.arr tg m xs])=>match Nat.beq n m,dec tg v.cells,allowed s b i (i+1)with
      |true,some x,true=> .ret [] ⟨.dead,[(b,.set i (.arr tg m (eM (gj m (aJ tg) xs) j x)))],[]⟩
      |_,_,_=> .none
     |_=> .none
    |_=> .none
   | .ptrE b _ j off=>match s.blk b,allowed s b 0 big with
    | .row tg xs false,true=>match uq (enc tg (bk xs j (aJ tg))) off ti.size with
     |some (i,r)=>match yV r v.cells with
      |true=>match dec tg (takeN i (enc tg (bk xs j (aJ tg)))++(v.cells++dropN (i+lenN r) (enc tg (bk xs j (aJ tg)))))with
       |some x=> .ret [] ⟨.dead,[(b,.blk (.row tg (eM xs j x) false))],[]⟩
       |none=> .none
      |false=> .none
     |none=> .none
    |_,_=> .none
   |_=> .none
def FP (T:Tr TI)(s:TypeId)(x:AV)(f:Nat):OpRes:=match T.get s with
 |some ti=>match ti.d with
  | .struct fs=>match nth fs f with
   |some (o,ft)=>match T.get ft with
    |some tf=>match Nat.beq tf.size 0 with
     |true=> .none
     |false=>match x with
      | .ptr b off=>val (.ptr b (off+o))
      | .ptrE b tg i off=>val (.ptrE b tg i (off+o))
      | .ptrL tg xs i off=>val (.ptrL tg xs i (off+o))
      |_=> .none
    |none=> .none
   |none=> .none
  |_=> .none
 |none=> .none
def vk (T:Tr TI)(s:St)(t:TypeId)(x i:AV):OpRes:=match T.get t,i with
 |some ti,.int _ n=>match ti.d with
  | .array len e=>match x,T.get e with
   | .ptr b off,some te=>match Nat.beq te.size 1 with
    |true=> .ret [inR n (Int.ofNat len)] ⟨.ptrI b off len n,[],[]⟩
    |false=> .none
   |_,_=> .none
  | .slice e=>match T.get e with
   |some te=>match x with
    | .list tg xs=>match wx te.tag tg with
     |true=> .ret [inR n (da xs)] ⟨.ptrL tg xs n 0,[],[]⟩
     |false=> .none
    | .vec b=>match s.blk b with
     | .row tg xs _=>match wx te.tag tg with
      |true=> .ret [inR n (da xs)] ⟨.ptrE b tg n 0,[],[]⟩
      |false=> .none
     | .rowA cs=>match Nat.beq te.size 1 with
      |true=> .ret [inR n (Int.ofNat (lenN cs))] ⟨.ptr b n.toNat,[],[]⟩
      |false=> .none
     |_=> .none
    | .pre b m=>match s.blk b with
     | .row tg _ _=>match wx te.tag tg with
      |true=> .ret [inR n m] ⟨.ptrE b tg n 0,[],[]⟩
      |false=> .none
     | .rowA _=>match Nat.beq te.size 1 with
      |true=> .ret [inR n m] ⟨.ptr b n.toNat,[],[]⟩
      |false=> .none
     |_=> .none
    |_=> .none
   |none=> .none
  |_=> .none
 |_,_=> .none
def idxC (T:Tr TI)(t:TypeId)(x i:AV):OpRes:=match T.get t,x,i with
 |some ti,.str s,.int _ n=>match ti.d with
  | .str=> .ret [inR n (da s)] ⟨.int .u8 (gi s n),[],[]⟩
  |_=> .none
 |some ti,.agg [.arr tg m xs],.int _ n=>match ti.d with
  | .array len e=>match T.get e with
   |some te=>match Nat.beq te.size 1&&(Nat.beq m len&& !te.agg),enc tg (bk xs n (aJ tg))with
    |true,[v]=> .ret [inR n (Int.ofNat len)] ⟨v,[],[]⟩
    |_,_=> .none
   |none=> .none
  |_=> .none
 |_,_,_=> .none
def cutL {β:Type}(xs:List β)(lo hi:Option AV)(k:List β->AV):OpRes:=match lo,hi with
 |none,none=>val (k xs)
 |none,some (.int _ h)=> .ret [inC h (da xs)] ⟨k (k9 xs h),[],[]⟩
 |some (.int _ l),none=> .ret [inC l (da xs)] ⟨k (nq xs l),[],[]⟩
 |some (.int _ l),some (.int _ h)=> .ret [inC h (da xs),inC l h] ⟨k (nq (k9 xs h) l),[],[]⟩
 |_,_=> .none
def xx (T:Tr TI)(s:St)(t:TypeId)(x:AV)(lo hi mx:Option AV):OpRes:=match T.get t,x,mx with
 |some ti,.str s,none=>match ti.d with
  | .str=>cutL s lo hi .str
  |_=> .none
 |some ti,.list tg xs,none=>match ti.d with
  | .slice e=>match T.get e with
   |some te=>match wx te.tag tg with
    |true=>cutL xs lo hi (.list tg)
    |false=> .none
   |none=> .none
  |_=> .none
 |some ti,.vec b,none=>match ti.d,lo,hi with
  | .slice e,some (.int _ l),none=>match T.get e with
   |some te=>match s.blk b with
    | .row tg xs _=>match wx te.tag tg with
     |true=> .ret [inC l (da xs)] ⟨.suf b l,[],[]⟩
     |false=> .none
    |_=> .none
   |none=> .none
  | .slice e,none,some (.int _ h)=>match T.get e with
   |some te=>match s.blk b with
    | .row tg xs _=>match wx te.tag tg with
     |true=> .ret [inC h (da xs)] ⟨.pre b h,[],[]⟩
     |false=> .none
    | .rowA cs=> .ret [inC h (Int.ofNat (lenN cs))] ⟨.pre b h,[],[]⟩
    |_=> .none
   |none=> .none
  |_,_,_=> .none
 |_,_,_=> .none
def eqV:AV->AV->Option Bool
 | .bool a,.bool b=>some (eqB a b)
 | .int j a,.int k b=>match pK j k with
  |true=>some (eqI a b)
  |false=>none
 | .str a,.str b=>some (eqS a b)
 | .arr .i n xs,.arr .i m ys=>match Nat.beq n m with
  |true=>some (eqA n xs ys)
  |false=>none
 | .err a,.err true=>some a
 | .err true,.err b=>some b
 |_,_=>none
def eqC:List AV->List AV->Option Bool
 |[],[]=>some true
 |[a],[b]=>eqV a b
 |a::as,b::bs=>match eqV a b,eqC as bs with
  |some x,some y=>some (kC x y)
  |_,_=>none
 |_,_=>none
def ph:List AV->List AV->Bool
 |[],[]=>true
 | .bool _::r,.bool _::q=>ph r q
 | .int j _::r,.int k _::q=>pK j k&&ph r q
 | .str _::r,.str _::q=>ph r q
 | .arr .i n _::r,.arr .i m _::q=>Nat.beq n m&&ph r q
 |_,_=>false
def yt (T:Tr TI)(t:TypeId):Bool:=match T.get t with
 |some ti=>match ti.d with
  | .bool=>true
  |_=>false
 |none=>false
def yu (T:Tr TI)(t:TypeId)(cst:Bool):Bool:=match T.get t with
 |some ti=>match ti.d with
  | .iface=>cst
  |_=>false
 |none=>false
def uw (T:Tr TI)(t:TypeId):Bool:=match T.get t with
 |some ti=>match ti.d with
  | .slice _=>true
  |_=>false
 |none=>false
def IB:Operand->Bool
 | .const _=>true
 |_=>false
def binC (T:Tr TI)(t:TypeId)(isB isF:Bool)(op:BinOp)(x y:AV):OpRes:=match op,x,y with
 | .shl,.int j a,.int _ b=> .ret [leI 0 b] ⟨.int j (eW j a b),[],[]⟩
 | .shr,.int j a,.int _ b=> .ret [leI 0 b] ⟨.int j (dC j a b),[],[]⟩
 |op,.int j a,.int j' b=>match pK j j' with
  |false=> .none
  |true=>match op with
   | .add=>val (.int j (aL j a b))
   | .sub=>val (.int j (bo j a b))
   | .mul=>val (.int j (cj j a b))
   | .quo=> .ret [bm (eqI b 0)] ⟨.int j (nn j a b),[],[]⟩
   | .rem=> .ret [bm (eqI b 0)] ⟨.int j (gC a b),[],[]⟩
   | .and=>val (.int j (dP j a b))
   | .or=>val (.int j (ior j a b))
   | .xor=>val (.int j (vA j a b))
   | .andNot=>val (.int j (jy j a b))
   | .eql=>val (.bool (eqI a b))
   | .neq=>val (.bool (bm (eqI a b)))
   | .lss=>val (.bool (ltI a b))
   | .leq=>val (.bool (leI a b))
   | .gtr=>val (.bool (ltI b a))
   | .geq=>val (.bool (leI b a))
   |_=> .none
 |op,.str a,.str b=>match op with
  | .add=> .ret [dO a b] ⟨.str (eI a b),[],[]⟩
  | .eql=>val (.bool (eqS a b))
  | .neq=>val (.bool (bm (eqS a b)))
  | .lss=>val (.bool (lessS a b))
  |_=> .none
 | .eql,.bool a,.bool b=>match isB with
  |true=>val (.bool (eqB a b))
  |false=> .none
 | .neq,.bool a,.bool b=>match isB with
  |true=>val (.bool (bm (eqB a b)))
  |false=> .none
 | .eql,.err a,.err true=>match isF with
  |true=>val (.bool a)
  |false=> .none
 | .neq,.err a,.err true=>match isF with
  |true=>val (.bool (bm a))
  |false=> .none
 | .eql,.agg x,.agg y=>match T.get t with
  |some ti=>match ti.eqk&&(ph ti.zero x&&ph ti.zero y),eqC x y with
   |true,some r=>val (.bool r)
   |_,_=> .none
  |none=> .none
 | .eql,.list _ xs,.nils=>match uw T t with
  |true=>val (.anyb (eqI (da xs) 0) false)
  |false=> .none
 | .neq,.list _ xs,.nils=>match uw T t with
  |true=>val (.anyb (eqI (da xs) 0) true)
  |false=> .none
 | .neq,.agg x,.agg y=>match T.get t with
  |some ti=>match ti.eqk&&(ph ti.zero x&&ph ti.zero y),eqC x y with
   |true,some r=>val (.bool (bm r))
   |_,_=> .none
  |none=> .none
 |_,_,_=> .none
def unC (op:UnOp)(x:AV):OpRes:=match op,x with
 | .not,.bool b=>val (.bool (bm b))
 | .neg,.int j n=>val (.int j (bo j 0 n))
 | .xor,.int j n=>val (.int j (AR j n))
 |_,_=> .none
def isU8:TD->Bool
 | .int .u8=>true
 |_=>false
def Gf (T:Tr TI)(e:TypeId):Bool:=match T.get e with
 |some te=>isU8 te.d
 |none=>false
def DT (T:Tr TI)(s:St)(src dst:TypeId)(x:AV):OpRes:=match T.get src,T.get dst with
 |some ts,some td=>match td.d,x with
  | .int j,.int _ n=>val (.int j (an j n))
  | .str,.str a=>match ts.d with
   | .str=>val (.str a)
   |_=> .none
  | .str,.list .u xs=>match ts.d with
   | .slice e=>match Gf T e with
    |true=>val (.str (l6 xs))
    |false=> .none
   |_=> .none
  | .str,.vec b=>match ts.d,s.blk b with
   | .slice e,.row .u xs _=>match Gf T e with
    |true=>val (.str (l6 xs))
    |false=> .none
   |_,_=> .none
  | .slice e,.str a=>match Gf T e,ts.d with
   |true,.str=> .ret [fits a] ⟨.vec s.n,[],[.row .u (wB a) false]⟩
   |_,_=> .none
  |_,_=> .none
 |_,_=> .none
def isI64:TD->Bool
 | .int .i64=>true
 |_=>false
def rt (T:Tr TI)(t:TypeId):Option Tag:=match T.get t with
 |some ti=>match ti.d with
  | .map k e=>match T.get k,T.get e with
   |some tk,some te=>match isI64 tk.d&& !te.agg,te.tag with
    |true,some tg=>match Nat.beq (esz tg) 1 with
     |true=>some tg
     |false=>none
    |_,_=>none
   |_,_=>none
  |_=>none
 |none=>none
def uA (T:Tr TI)(s:St)(t:TypeId):OpRes:=match rt T t with
 |some tg=> .ret [] ⟨.mapr s.n,[],[.map tg []]⟩
 |none=> .none
def tO (T:Tr TI)(s:St)(t:TypeId)(m key x:AV):OpRes:=match rt T t,m,key with
 |some tg,.mapr b,.int .i64 k=>match s.blk b,allowed s b 0 big with
  | .map tg' es,true=>match dec tg' [x],JU tg tg' with
   |some y,true=> .ret [] ⟨.dead,[(b,.blk (.map tg' (wA es k y)))],[]⟩
   |_,_=> .none
  |_,_=> .none
 |_,_,_=> .none
def BD (T:Tr TI)(s:St)(t:TypeId)(m key:AV)(ok:Bool):OpRes:=match rt T t,m,key with
 |some tg,.mapr b,.int .i64 k=>match s.blk b with
  | .map tg' es=>match enc tg' (BG es k (aJ tg')),JU tg tg' with
   |[v],true=>match ok with
    |true=>val (.tup [v,.bool (yE es k)])
    |false=>val v
   |_,_=> .none
  |_=> .none
 |_,_,_=> .none
def IT (T:Tr TI)(s:St)(t:TypeId)(l c:AV):OpRes:=match T.get t,l,c with
 |some ti,.int _ l,.int _ c=>match ti.d with
  | .slice e=>match T.get e with
   |some te=>match te.tag with
    |some tg=> .ret [inC l c,D3 c] ⟨.vec s.n,[],[.row tg (wt l (aJ tg)) false]⟩
    |none=> .none
   |none=> .none
  |_=> .none
 |_,_,_=> .none
def zE (fs:Nat->Nat->Option Nat)(s:St):List AV->List (Nat×Operand)->Option (List AV)
 |cs,[]=>some cs
 |cs,(i,x)::r=>match fs i (bw (s.ev x).cells)with
  |some o=>match uq cs o (bw (s.ev x).cells)with
   |some (j,old)=>match isNil (s.ev x).cells with
    |false=>zE fs s (takeN j cs++((s.ev x).cells++dropN (j+lenN old) cs)) r
    |true=>none
   |none=>none
  |none=>none
def ye (T:Tr TI)(fs:List (Nat×TypeId))(i w:Nat):Option Nat:=match nth fs i with
 |some (o,t)=>match T.get t with
  |some ti=>match Nat.beq ti.size w with
   |true=>some o
   |false=>none
  |none=>none
 |none=>none
def CF (T:Tr TI)(s:St)(t:TypeId)(ps:List (Nat×Operand)):OpRes:=match T.get t with
 |some ti=>match ti.d with
  | .struct fs=>match zE (ye T fs) s ti.zero ps with
   |some cs=>val (.agg cs)
   |none=> .none
  | .array _ e=>match T.get e,isNil ps with
   |some _,true=>val (.agg ti.zero)
   |_,_=> .none
  |_=> .none
 |none=> .none
def pC (tg:Tag)(s:St):Nat->List (Nat×Operand)->Option (List (El tg))
 |_,[]=>some []
 |i,(j,x)::r=>match Nat.beq i j with
  |true=>match dec tg (s.ev x).cells with
   |some y=>match pC tg s (i+1) r with
    |some l=>some (y::l)
    |none=>none
   |none=>none
  |false=>none
def cellsOf (s:St):Nat->List (Nat×Operand)->Option (List AV)
 |_,[]=>some []
 |i,(j,x)::r=>match Nat.beq i j with
  |true=>match cellsOf s (i+1) r with
   |some l=>match(s.ev x).cells with
    |[.arr _ _ _]=>none
    |[a]=>some (a::l)
    |_=>none
   |none=>none
  |false=>none
def oV (T:Tr TI)(s:St)(t:TypeId)(len:Nat)(ps:List (Nat×Operand)):OpRes:=match T.get t with
 |some ti=>match ti.d with
  | .slice e=>match T.get e with
   |some te=>match te.tag with
    |some tg=>match Nat.beq len (lenN ps)&&Nat.ble len 4000,pC tg s 0 ps with
     |true,some l=> .ret [] ⟨.vec s.n,[],[.row tg l false]⟩
     |_,_=> .none
    |none=>match Nat.beq len (lenN ps)&&(Nat.ble len 4000&&Nat.beq te.size 1),cellsOf s 0 ps with
     |true,some l=> .ret [] ⟨.vec s.n,[],[.rowA l]⟩
     |_,_=> .none
   |none=> .none
  |_=> .none
 |none=> .none
def ww {t t':Tag}(xs:List (El t)):Option (List (El t')):=if h:t=t' then some (h▸xs)else none
def xg (s:St)(tg:Tag):TD->AV->Option (List (El tg))
 | .slice _,.nils=>some []
 | .slice _,.list _ xs=>ww xs
 | .slice _,.vec b=>match s.blk b with
  | .row _ xs _=>ww xs
  |_=>none
 | .str,.str a=>ww (t:= .u) (wB a)
 |_,_=>none
def GP (b:Nat):AV->Bool
 | .vec c=> !(Nat.beq b c)
 |_=>true
def xO (T:Tr TI)(s:St)(ts:List TypeId)(x y:AV):OpRes:=match ts with
 |[st,xt]=>match T.get st,T.get xt with
  |some ti,some tx=>match ti.d with
   | .slice e=>match T.get e with
    |some te=>match te.tag with
     |some tg=>match xg s tg tx.d y with
      |some ys=>match x with
       | .nils=> .ret [fits ys] ⟨.vec s.n,[],[.row tg ys false]⟩
       | .vec b=>match s.blk b with
        | .row _ xs false=>match(ww xs:Option (List (El tg))),GP b y&&allowed s b 0 big with
         |some xs,true=> .ret [dO xs ys] ⟨.vec s.n,[(b,.blk .gone)],[.row tg (eI xs ys) false]⟩
         |_,_=> .none
        |_=> .none
       |_=> .none
      |none=> .none
     |none=> .none
    |none=> .none
   |_=> .none
  |_,_=> .none
 |_=> .none
def lenV (s:St):TD->AV->Option Int
 | .str,.str a=>some (da a)
 | .slice _,.list _ xs=>some (da xs)
 | .slice _,.nils=>some 0
 | .slice _,.vec b=>match s.blk b with
  | .row _ xs _=>some (da xs)
  | .rowA cs=>some (Int.ofNat (lenN cs))
  |_=>none
 | .slice _,.pre b n=>match s.blk b with
  | .row _ _ _=>some n
  | .rowA _=>some n
  |_=>none
 | .array n _,_=>some (Int.ofNat n)
 |_,_=>none
end Go.Den
namespace Go.Den
mutual
def rz (own:Bool):AV->List Nat
 | .ptr b _| .ptrI b _ _ _| .ptrE b _ _ _| .mapr b=>[b]
 | .vec b| .pre b _| .suf b _=>match own with|true=>[b]|false=>[]
 | .func _ f c=>kL own f++kL own c
 | .agg cs=>kL own cs
 | .tup vs=>kL own vs
 |_=>[]
def kL (own:Bool):List AV->List Nat
 |[]=>[]
 |a::r=>rz own a++kL own r
end
def refsB:Blk->List Nat
 | .var cs| .rowA cs=>kL true cs
 |_=>[]
def sM:List Nat->Nat->Bool
 |[],_=>false
 |a::r,i=>match Nat.beq a i with
  |true=>true
  |false=>sM r i
def pf (blk:Nat->Blk):Nat->List Nat->List Nat->List Nat
 |0,_,acc=>acc
 |_+1,[],acc=>acc
 |f+1,b::bs,acc=>match sM acc b with
  |true=>pf blk f bs acc
  |false=>pf blk f (refsB (blk b)++bs) (acc++[b])
def oS:List Nat->Nat->Nat->Option Nat
 |[],_,_=>none
 |a::r,i,n=>match Nat.beq a i with
  |true=>some n
  |false=>oS r i (n+1)
mutual
def ren (σ:Nat->Option Nat)(blk:Nat->Blk):AV->AV
 | .ptr b o=>match σ b with|some i=> .ptr i o|none=> .dead
 | .ptrI b o n i=>match σ b with|some j=> .ptrI j o n i|none=> .dead
 | .ptrE b t i o=>match σ b with|some j=> .ptrE j t i o|none=> .dead
 | .mapr b=>match σ b with|some i=> .mapr i|none=> .dead
 | .vec b=>match σ b with
  |some i=> .vec i
  |none=>match blk b with
   | .row t xs _=> .list t xs
   |_=> .dead
 | .pre b n=>match σ b with
  |some i=> .pre i n
  |none=>match blk b with
   | .row t xs _=> .list t (k9 xs n)
   |_=> .dead
 | .suf b n=>match σ b with
  |some i=> .suf i n
  |none=> .dead
 | .func fn f c=> .func fn (wq σ blk f) (wq σ blk c)
 | .agg cs=> .agg (wq σ blk cs)
 | .tup vs=> .tup (wq σ blk vs)
 |a=>a
def wq (σ:Nat->Option Nat)(blk:Nat->Blk):List AV->List AV
 |[]=>[]
 |a::r=>ren σ blk a::wq σ blk r
end
def nV (σ:Nat->Option Nat)(blk:Nat->Blk):Blk->Blk
 | .var cs=> .var (wq σ blk cs)
 | .rowA cs=> .rowA (wq σ blk cs)
 |b=>b
structure Sem1 where
 wr:List (Nat×Nat×Nat)
 own:Bool
 run:∀α:Type,List AV->List Blk->(AV->List Blk->Option α)->Option α
mutual
def nI:AV->Bool
 | .list _ _| .ptrL _ _ _ _=>false
 | .func _ f c=>kZ f&&kZ c
 | .agg cs=>kZ cs
 | .tup vs=>kZ vs
 |_=>true
def kZ:List AV->Bool
 |[]=>true
 |a::r=>nI a&&kZ r
end
def tE:Blk->Bool
 | .var cs| .rowA cs=>kZ cs
 | .row .grp _ _=>false
 | .map _ _=>false
 |_=>true
def qT:List Blk->Bool
 |[]=>true
 |b::r=>tE b&&qT r
def pF (blk:Nat->Blk):List Nat->List (Nat×WU)
 |[]=>[]
 |b::r=>match blk b with
  | .row t xs _=>(b,.blk (.row t xs true))::pF blk r
  |_=>pF blk r
def rk (i k:Nat):List (Nat×Nat×Nat)->Bool
 |[]=>false
 |(j,lo,hi)::r=>(Nat.beq i j&&(Nat.ble lo k&&Nat.blt k hi))||rk i k r
def ni (b i:Nat)(wr:List (Nat×Nat×Nat)):Nat->List AV->List (Nat×WU)
 |_,[]=>[]
 |k,a::r=>match rk i k wr with
  |true=>(b,.set k a)::ni b i wr (k+1) r
  |false=>ni b i wr (k+1) r
def lY (i:Nat):List (Nat×Nat×Nat)->Bool
 |[]=>false
 |(j,lo,hi)::r=>(Nat.beq i j&&(Nat.beq lo 0&&Nat.ble big hi))||lY i r
def rV (i:Nat):List (Nat×Nat×Nat)->Bool
 |[]=>false
 |(j,_,_)::r=>Nat.beq i j||rV i r
def tj (wr:List (Nat×Nat×Nat))(blk:Nat->Blk):Nat->List Nat->List Blk->Option (List (Nat×WU))
 |i,j::js,b::bs=>match tj wr blk (i+1) js bs with
  |none=>none
  |some r=>match lY i wr with
   |true=>some ((j,.blk b)::r)
   |false=>match rV i wr with
    |false=>some r
    |true=>match blk j,b with
     | .var cs,.var ds=>match yV cs ds with
      |true=>some (ni j i wr 0 ds++r)
      |false=>none
     |_,_=>none
 |_,[],[]=>some []
 |_,_,_=>none
def qf (s:St):List (Nat×WU)->Bool
 |[]=>true
 |(b,.blk _)::r=>allowed s b 0 big&&qf s r
 |(b,.set k _)::r=>okW s b k 1&&qf s r
def vR (blk:Nat->Blk):List Nat->Bool
 |[]=>true
 |b::r=>(match blk b with| .gone=>false|_=>true)&&(!sM r b&&vR blk r)
def kH (keep:List Nat):List Nat->List Nat
 |[]=>[]
 |b::r=>match sM keep b with
  |true=>kH keep r
  |false=>match sM (kH keep r) b with
   |true=>kH keep r
   |false=>b::kH keep r
def ltN (n:Nat):List Nat->List Nat
 |[]=>[]
 |b::r=>match Nat.blt b n with
  |true=>b::ltN n r
  |false=>ltN n r
def kP (S:List Nat)(blk:Nat->Blk)(b:Nat):Blk:=match sM S b with
 |true=>blk b
 |false=> .gone
def y6 (keep:List Nat)(n:Nat)(i:Nat):Option Nat:=match nth keep i with
 |some j=>some j
 |none=>some (n+(i-lenN keep))
def uk (σ:Nat->Option Nat)(blk:Nat->Blk):List Blk->List Blk
 |[]=>[]
 |b::r=>nV σ blk b::uk σ blk r
def gx (σ:Nat->Option Nat)(blkS blk:Nat->Blk):List Nat->List Blk
 |[]=>[]
 |b::r=>nV σ blkS (blk b)::gx σ blkS blk r
def mq:Nat->Blk:=fun _=> .gone
def finC (m:Sem1)(s:St)(keep S:List Nat)(r:AV)(hs:List Blk):Option Eff:=
 match tj m.wr s.blk 0 keep (uk (y6 keep s.n) mq (takeN (lenN keep) hs)),Nat.ble (lenN keep) (lenN hs)with
 |some u,true=>match nI r&&qT hs with
  |true=>match qf s u with
   |true=>some ⟨ren (y6 keep s.n) mq r,u,uk (y6 keep s.n) mq (dropN (lenN keep) hs)⟩
   |false=>none
  |false=>match qf s (pF s.blk S++u)with
   |true=>some ⟨ren (y6 keep s.n) mq r,pF s.blk S++u,uk (y6 keep s.n) mq (dropN (lenN keep) hs)⟩
   |false=>none
 |_,_=>none
def H8 (m:Sem1)(s:St)(f:FuncId)(args:List AV)(keep S:List Nat):OpRes:=match vR s.blk keep with
 |true=> .call f (wq (oS keep · 0) (kP S s.blk) args) (gx (oS keep · 0) (kP S s.blk) s.blk keep) (finC m s keep S)
 |false=> .none
def A5 (E:Tr Sem1)(s:St)(f:FuncId)(args:List AV):OpRes:=match E.get f with
 |none=> .none
 |some m=>H8 m s f args (pf s.blk 60 (kL m.own args) []) (kH (pf s.blk 60 (kL m.own args) []) (ltN s.n (kL true args)))
def pickC (c a b:AV):OpRes:=match c with
 | .bool true=>val a
 | .bool false=>val b
 |_=> .none
def Cy (T:Tr TI)(s:St)(t:TypeId):OpRes:=match T.get t with
 |some ti=> .ret [] ⟨.ptr s.n 0,[],[.var ti.zero]⟩
 |none=> .none
def boxC (s:St)(x:AV):OpRes:=match isNil x.cells with
 |true=> .none
 |false=> .ret [] ⟨.ptr s.n 0,[],[.var x.cells]⟩
def nilC (x:AV):OpRes:=match x with
 | .ptr b o=>val (.ptr b o)
 | .ptrE b t i o=>val (.ptrE b t i o)
 | .ptrL t xs i o=>val (.ptrL t xs i o)
 | .ptrI b o n i=>val (.ptrI b o n i)
 | .func (.func f) a b=>val (.func (.func f) a b)
 |_=> .none
def As:List AV->Bool
 |[]=>true
 | .func _ _ _::_| .agg _::_| .tup _::_| .arr _ _ _::_=>false
 |_::r=>As r
def vG (fn:Fn)(a c:List AV):OpRes:=match As a&&As c with
 |true=>val (.func fn a c)
 |false=> .none
def yc (x:AV)(i:Nat):OpRes:=match x with
 | .tup vs=>match nth vs i with
  |some v=>val v
  |none=> .none
 |_=> .none
def lenC (T:Tr TI)(s:St)(ts:List TypeId)(xs:List AV):OpRes:=match xs,ts with
 |[x],[t]=>match T.get t with
  |some ti=>match lenV s ti.d x with
   |some n=>val (.int .i64 n)
   |none=> .none
  |none=> .none
 |_,_=> .none
def mmC (f:Int->Int->Int)(xs:List AV):OpRes:=match xs with
 |[.int j a,.int j' b]=>match pK j j' with
  |true=>val (.int j (f a b))
  |false=> .none
 |_=> .none
def wK (T:Tr TI)(s:St)(ts:List TypeId)(xs:List AV):OpRes:=match ts,xs with
 |[t],[.suf b n]=>match T.get t with
  |some ti=>match ti.d with
   | .slice e=>match T.get e with
    |some te=>match s.blk b,allowed s b 0 big with
     | .row tg xs false,true=>match wx te.tag tg with
      |true=> .ret [ltI n (da xs)] ⟨.dead,[(b,.blk (.row tg (clrL xs n (aJ tg)) false))],[]⟩
      |false=> .none
     |_,_=> .none
    |none=> .none
   |_=> .none
  |none=> .none
 |_,_=> .none
def appC (T:Tr TI)(s:St)(ts:List TypeId)(xs:List AV):OpRes:=match xs with
 |[x,y]=>xO T s ts x y
 |_=> .none
def opN (T:Tr TI)(s:St)(o:Oper):OpRes:=match o.op with
 | .move x| .assign x=>val (s.ev x)
 | .pick c a b=>pickC (s.ev c) (s.ev a) (s.ev b)
 | .alloc t=>Cy T s t
 | .box _ x=>boxC s (s.ev x)
 | .build t ps=>CF T s t ps.toList
 | .buildSlice t n ps=>oV T s t n ps.toList
 | .load t a=>yB T s t (s.ev a)
 | .store t a x=>sJ T s t (s.ev a) (s.ev x)
 | .nilCheck x=>nilC (s.ev x)
 | .binOp op t x y _=>binC T t (yt T t) (yu T t (IB y)) op (s.ev x) (s.ev y)
 | .unOp op _ x=>unC op (s.ev x)
 | .convert src dst x=>DT T s src dst (s.ev x)
 | .makeFunc fn a c=>vG fn (a.toList.map s.ev) (c.toList.map s.ev)
 | .makeMap t none=>uA T s t
 | .insert t m key x| .mapUpdate t m key x=>tO T s t (s.ev m) (s.ev key) (s.ev x)
 | .lookup t m key ok=>BD T s t (s.ev m) (s.ev key) ok
 | .makeSlice t l c=>IT T s t (s.ev l) (s.ev c)
 | .slice t x lo hi mx=>xx T s t (s.ev x) (lo.map s.ev) (hi.map s.ev) (mx.map s.ev)
 | .fieldAddr t x f=>FP T t (s.ev x) f
 | .indexAddr t x i=>vk T s t (s.ev x) (s.ev i)
 | .index t x i=>idxC T t (s.ev x) (s.ev i)
 | .extract x i=>yc (s.ev x) i
 | .call c=>match c.callee with
  | .builtin .len=>lenC T s c.argTypes.toList (c.args.toList.map s.ev)
  | .builtin .append=>appC T s c.argTypes.toList (c.args.toList.map s.ev)
  | .builtin .clear=>wK T s c.argTypes.toList (c.args.toList.map s.ev)
  | .builtin .min=>mmC jp (c.args.toList.map s.ev)
  | .builtin .max=>mmC F7 (c.args.toList.map s.ev)
  |_=> .none
 |_=> .none
def tT:Op->Option (Operand×List Operand)
 | .call c=>match c.callee with
  | .value f=>some (f,c.args.toList)
  |_=>none
 |_=>none
def Dd:OpRes->OpRes
 | .call _ _ _ _=> .none
 |r=>r
def H9 (E:Tr Sem1)(s:St)(f:AV)(args:List AV):OpRes:=match f with
 | .func (.func g) first cap=>A5 E s g (first++(args++cap))
 |_=> .none
def opC (E:Tr Sem1)(T:Tr TI)(s:St)(o:Oper):OpRes:=match tT o.op with
 |some (f,args)=>H9 E s (s.ev f) (args.map s.ev)
 |none=>Dd (opN T s o)
section den
variable {α:Type}
def Fg:List Bool->Option α->Option α
 |[],x=>x
 |b::r,x=>br b (Fg r x) none
def KF (E:Tr Sem1):OpRes->(Eff->Option α)->Option α
 | .none,_=>none
 | .ret asks e,k=>Fg asks (k e)
 | .call g args hs fin,k=>match E.get g with
  |none=>none
  |some m=>m.run α args hs fun r hs=>match fin r hs with
   |some e=>k e
   |none=>none
def oO (d:Tmp):List Oper->List Oper->Option (List Oper×Oper×List Oper)
 |_,[]=>none
 |acc,o::r=>match o.op with
  | .pick (.tmp c) _ _=>match Nat.beq c d with
   |true=>some (acc.reverse,o,r)
   |false=>oO d (o::acc) r
  |_=>oO d (o::acc) r
def pickB (s:St)(o:Oper):Option Bool:=match o.op with
 | .pick (.tmp c) a b=>match s.get c with
  | .bool true=>match s.ev a with| .bool r=>some r|_=>none
  | .bool false=>match s.ev b with| .bool r=>some r|_=>none
  |_=>none
 |_=>none
def ui (ops:List Oper)(j:Nat):Option Tmp:=match nth ops j with
 |some o=>o.dst
 |none=>none
def pq (s:St):List Oper->St
 |[]=>s
 |o::r=>pq (s.put o.dst .dead) r
def knows:List Nat->Nat->Bool
 |[],_=>false
 |a::r,i=>match Nat.beq a i with
  |true=>true
  |false=>knows r i
def goesP (ops:List Oper)(kn:List Nat)(s:St)(o:Oper):Bool:=match o.guard with
 |none=>true
 |some (j,want)=>match knows kn j,ui ops j with
  |true,some d=>match want,s.get d with
   |true,.bool true=>true
   |false,.bool false=>true
   |_,_=>false
  |_,_=>false
def finB (p:Oper)(s:St):Option Bool:=match s.w with
 |false=>pickB s p
 |true=>none
def Fq (E:Tr Sem1)(o:Oper):Bool:=match tT o.op with
 |some (.func g,_)=>match E.get g with
  |some m=>match isNil m.wr with
   |true=>false
   |false=>true
  |none=>false
 |some _=>false
 |none=>match o.op with
  | .store _ _ _=>true
  |_=>false
def tt (E:Tr Sem1)(j:Nat):List Oper->Bool
 |[]=>false
 |o::r=>match o.guard with
  |some (i,_)=>match Nat.beq i j&&Fq E o with
   |true=>true
   |false=>tt E j r
  |none=>tt E j r
def yK (E:Tr Sem1)(T:Tr TI)(ops:List Oper):Nat->List Nat->(α:Type)->List Oper->St->(St->Option α)->Option α
 |0,_,_,_,_,_=>none
 |_+1,_,_,[],s,k=>k s
 |f+1,kn,α,o::r,s,k=>match o.guard with
  |none=>KF E (opC E T s o) fun e=>yK E T ops f kn α r (s.apply o.dst e) k
  |some (j,want)=>match ui ops j with
   |none=>none
   |some d=>match s.get d with
    | .tup []=>yK E T ops f kn α r (s.put o.dst (.tup [])) k
    | .bool b=>match knows kn j with
     |true=>match want,b with
      |true,true=>KF E (opC E T s o) fun e=>yK E T ops f kn α r (s.apply o.dst e) k
      |false,false=>KF E (opC E T s o) fun e=>yK E T ops f kn α r (s.apply o.dst e) k
      |true,false=>yK E T ops f kn α r (s.put o.dst (.tup [])) k
      |false,true=>yK E T ops f kn α r (s.put o.dst (.tup [])) k
     |false=>match tt E j (o::r)with
      |true=>br b (yK E T ops f (j::kn) α (o::r) {s with t:=(d,.bool true)::s.t} k) (yK E T ops f (j::kn) α (o::r) {s with t:=(d,.bool false)::s.t} k)
      |false=>match oO d [] (o::r)with
       |some (pre,p,post)=>match goesP ops kn (pq s pre) p with
        |false=>none
        |true=>
         bnd (br b
          (yK E T ops f (j::kn) Bool pre {s with t:=(d,.bool true)::s.t,w:=false} (finB p))
          (yK E T ops f (j::kn) Bool pre {s with t:=(d,.bool false)::s.t,w:=false} (finB p)))
         fun x=>yK E T ops f kn α post ((pq s pre).put p.dst (.bool x)) k
       |none=>none
    |_=>none
def gt:Op->Bool
 | .alloc _| .box _ _| .buildSlice _ _ _| .makeSlice _ _ _| .makeMap _ _| .move _| .assign _| .pick _ _ _| .build _ _| .load _ _| .nilCheck _| .binOp _ _ _ _ _| .unOp _ _ _| .convert _ _ _| .makeFunc _ _ _| .slice _ _ _ _ _| .fieldAddr _ _ _| .indexAddr _ _ _| .index _ _ _| .extract _ _| .lookup _ _ _ _=>true
 | .call c=>match c.callee with
  | .builtin .len| .builtin .min| .builtin .max=>true
  |_=>false
 |_=>false
def eU (o:Oper):List Nat:=(o.after.toList.filter (Region.binds .any)).map (·.on)
def AX (dn:List Nat):List Nat->Bool
 |[]=>true
 |a::r=>sM dn a&&AX dn r
abbrev IOp:=Nat×Oper
def sn (dn:List Nat):List IOp->List IOp->Option (IOp×List IOp)
 |_,[]=>none
 |acc,x::r=>match gt x.2.op&&AX dn (eU x.2)with
  |true=>some (x,acc.reverse++r)
  |false=>sn dn (x::acc) r
def I3 (dn:List Nat):List IOp->List IOp->Option (IOp×List IOp)
 |_,[]=>none
 |acc,x::r=>match gt x.2.op with
  |true=>I3 dn (x::acc) r
  |false=>match AX dn (eU x.2)&&r.all fun y=>gt y.2.op|| !AX dn (eU y.2)with
   |true=>some (x,acc.reverse++r)
   |false=>none
def wholes (l:List Nat):List (Nat×Nat×Nat):=l.map fun b=>(b,0,big)
def pM (T:Tr TI)(s:St)(t:TypeId)(a:AV):List (Nat×Nat×Nat):=match a,T.get t with
 | .ptr b off,some ti=>match s.blk b with
  | .var cs=>match uq cs off ti.size with
   |some (i,r)=>[(b,i,i+lenN r)]
   |none=>[(b,0,big)]
  |_=>[(b,0,big)]
 | .ptrI b off n _,some _=>match s.blk b with
  | .var cs=>match uq cs off n with
   |some (i,r)=>[(b,i,i+lenN r)]
   |none=>[(b,0,big)]
  |_=>[(b,0,big)]
 |a,_=>wholes (rz true a)
def Gh:AV->List (Nat×Nat×Nat)
 | .ptr _ _=>[]
 |a=>wholes (rz true a)
def pR (T:Tr TI)(s:St)(o:Oper):List (Nat×Nat×Nat):=match o.op with
 | .load t a=>pM T s t (s.ev a)
 | .indexAddr _ x _=>Gh (s.ev x)
 | .convert _ _ x| .slice _ x _ _ _=>wholes (rz true (s.ev x))
 | .lookup _ m _ _=>wholes (rz true (s.ev m))
 | .call c=>wholes (kL true (c.args.toList.map s.ev))
 |_=>[]
def KK (s:St)(b:Nat)(u:WU)(x:Nat×Nat×Nat):Bool:= !Nat.beq x.1 b||match u with
 | .blk _=>false
 | .set k a=>(Nat.blt k x.2.1||Nat.ble x.2.2 k)&&(Nat.blt k big&&match s.blk b with
   | .var cs=>(match nth cs k with|some c=>Nat.beq c.width a.width|none=>true)
   |_=>false)
def xy (s:St)(rd:List (Nat×Nat×Nat)):List (Nat×WU)->Bool
 |[]=>true
 |(b,w)::u=>rd.all (KK s b w)&&xy s rd u
abbrev EL:=Nat×List Nat×List (Nat×Nat×Nat)
def qd (s:St)(pr:List Nat)(u:List (Nat×WU)):List EL->Bool
 |[]=>true
 |q::r=>(sM pr q.1||xy s q.2.2 u)&&qd s pr u r
def dm:List Oper->List (List Nat)->List (List Nat)
 |[],acc=>acc
 |o::r,acc=>dm r (acc++[eU o++(eU o).flatMap fun e=>match nth acc e with|some l=>l|none=>[]])
def k7 (ops:List Oper)(o:Oper):List Tmp:=
 (o.op.operands.toList.filterMap fun| .tmp t=>some t|_=>none)++(match o.guard with|some (g,_)=>(match ui ops g with|some d=>[d]|none=>[])|none=>[])
def AF (ops:List Oper)(prs:List (List Nat))(j:Nat)(o:Oper)(i:Nat)(p:Oper):Bool:=match p.dst with
 |none=>true
 |some d=>(Nat.beq i j||(match o.dst with|some e=> !Nat.beq d e|none=>true))&&
  (!sM (k7 ops o) d||((match nth prs j with|some l=>sM l i|none=>false)||(match nth prs i with|some l=>sM l j|none=>false)))
def sH (ops:List Oper)(prs:List (List Nat))(j:Nat)(o:Oper):Nat->List Oper->Bool
 |_,[]=>true
 |i,p::r=>AF ops prs j o i p&&sH ops prs j o (i+1) r
def wh (ops:List Oper)(prs:List (List Nat)):Nat->List Oper->Bool
 |_,[]=>true
 |j,o::r=>((eU o).all fun e=>Nat.blt e j)&&((match o.op with| .select _ _=>false|_=>true)&&(sH ops prs j o 0 ops&&wh ops prs (j+1) r))
def Kg:Nat->List Oper->List IOp
 |_,[]=>[]
 |i,o::r=>(i,o)::Kg (i+1) r
def kf (pr:List Nat)(ms:List (Nat×Nat)):List Nat:=(ms.filter fun m=> !sM pr m.2).map (·.1)
def FX:List Nat->List (Nat×Blk)->List (Nat×Blk)
 |[],h=>h
 |b::r,h=>(b,.gone)::FX r h
def St.mask (s:St)(bs:List Nat):St:={s with h:=FX bs s.h}
def offB (bs:List Nat):List (Nat×WU)->Bool
 |[]=>true
 |u::r=> !sM bs u.1&&offB bs r
def KJ (s:St)(o:Oper):Bool:=(kL true (o.op.operands.toList.map s.ev)).all fun b=>match s.blk b with
 | .gone=>false
 |_=>true
def qNew (s:St)(i:Nat)(e:Eff)(ms:List (Nat×Nat)):Option (List (Nat×Nat)):=match e.new with
 |[]=>some ms
 |[_]=>some ((s.n,i)::ms)
 |_=>none
def uC (E:Tr Sem1)(T:Tr TI)(ops:List Oper)(prs:List (List Nat)):Nat->List Nat->List EL->List (Nat×Nat)->List IOp->St->(St->Option α)->Option α
 |0,_,_,_,_,_,_=>none
 |f+1,dn,qs,ms,l,s,k=>match sn dn [] l with
  |some (x,l')=>
   let pr:=match nth prs x.1 with|some p=>p|none=>[]
   let run (s:St):Option α:=match opC E T s x.2 with
    | .ret asks e=>match isNil e.upd&&((pR T s x.2).all fun r=>Nat.blt r.1 s.n&& !sM (kf pr ms) r.1)with
     |true=>match qNew s x.1 e ms with
      |some ms'=>Fg asks (uC E T ops prs f (x.1::dn) ((x.1,pr,pR T s x.2)::qs) ms' l' (s.apply x.2.dst e) k)
      |none=>none
     |false=>none
    |_=>none
   match x.2.guard with
   |none=>run s
   |some (j,want)=>match ui ops j with
    |none=>none
    |some d=>match s.get d with
     | .bool b=>br b
      (match want with
       |true=>run {s with t:=(d,.bool true)::s.t}
       |false=>uC E T ops prs f (x.1::dn) qs ms l' ({s with t:=(d,.bool true)::s.t}.put x.2.dst (.tup [])) k)
      (match want with
       |false=>run {s with t:=(d,.bool false)::s.t}
       |true=>uC E T ops prs f (x.1::dn) qs ms l' ({s with t:=(d,.bool false)::s.t}.put x.2.dst (.tup [])) k)
     | .tup []=>uC E T ops prs f (x.1::dn) qs ms l' (s.put x.2.dst (.tup [])) k
     |_=>none
  |none=>match l with
   |[]=>k s
   |_=>match I3 dn [] l with
    |none=>none
    |some (x,l')=>
     let pr:=match nth prs x.1 with|some p=>p|none=>[]
     let run (s:St):Option α:=match isNil (kf pr ms)||KJ (s.mask (kf pr ms)) x.2 with
      |true=>KF E (opC E T (s.mask (kf pr ms)) x.2) fun e=>match qd s pr e.upd qs&&offB (kf pr ms) e.upd with
       |true=>uC E T ops prs f (x.1::dn) qs ms l' (s.apply x.2.dst e) k
       |false=>none
      |false=>none
     match x.2.guard with
     |none=>run s
     |some (j,want)=>match ui ops j with
      |none=>none
      |some d=>match s.get d with
       | .bool b=>br b
        (match want with
         |true=>run {s with t:=(d,.bool true)::s.t}
         |false=>uC E T ops prs f (x.1::dn) qs ms l' ({s with t:=(d,.bool true)::s.t}.put x.2.dst (.tup [])) k)
        (match want with
         |false=>run {s with t:=(d,.bool false)::s.t}
         |true=>uC E T ops prs f (x.1::dn) qs ms l' ({s with t:=(d,.bool false)::s.t}.put x.2.dst (.tup [])) k)
       | .tup []=>uC E T ops prs f (x.1::dn) qs ms l' (s.put x.2.dst (.tup [])) k
       |_=>none
def yq (o:Oper):Option (TypeId×Tmp×Int×Value):=match o.op,o.dst,o.guard with
 | .insert t (.tmp m) (.const (.int .i64 k)) (.const c),none,none=>some (t,m,k,c)
 |_,_,_=>none
def zG (tg:Tag)(m:Tmp):List Oper->Option (List (Int×El tg))
 |[]=>some []
 |o::r=>match yq o with
  |some (_,m',k,c)=>match Nat.beq m' m with
   |false=>zG tg m r
   |true=>match dec tg [ofValue c],zG tg m r with
    |some y,some l=>some ((k,y)::l)
    |_,_=>none
  |none=>zG tg m r
def zT (o:Oper):Option Tmp:=match o.op with
 | .makeMap _ none=>o.dst
 |_=>none
def KE (ops:List Oper):List Nat->Tmp->Bool
 |[],_=>false
 |q::r,m=>(match nth ops q with
  |some o=>(match zT o with
   |some d=>Nat.beq d m
   |none=>false)
  |none=>false)||KE ops r m
def insIn (s:St)(pr:List Nat)(b:Nat):Nat->List Oper->Bool
 |_,[]=>true
 |j,o::r=>(match yq o with
  |some (_,m,_,_)=>(match s.get m with
   | .mapr b'=> !Nat.beq b' b||sM pr j
   |_=>true)
  |none=>true)&&insIn s pr b (j+1) r
def prOf (prs:List (List Nat))(i:Nat):List Nat:=match nth prs i with|some p=>p|none=>[]
def mt (_:Tr TI)(_:List Oper)(_:List (List Nat))(_:St):Option St:=none
def yO (E:Tr Sem1)(T:Tr TI)(ops:List Oper)(draw:Bool)(s:St)(k:St->Option α):Option α:=match draw with
 |false=>yK E T ops 400 [] α ops s k
 |true=>match wh ops (dm ops []) 0 ops with
  |true=>match mt T ops (dm ops []) s with
   |some s'=>k s'
   |none=>uC E T ops (dm ops []) 400 [] [] [] (Kg 0 ops) s k
  |false=>none
inductive VT where
 |bool|int (k:IntKind)|str|list (t:Tag)|el (t:Tag)|arr (t:Tag) (n:Nat)
 |konst (v:AV)
 |agg (l:List VT)
inductive BT where
 |var (l:List VT)
 |row (t:Tag)
 |map (t:Tag)
 |konst (b:Blk)
structure Desc where
 ts:List (Nat×VT)
 hs:List BT
 nl:List (Nat×Nat×Tag):=[]
inductive DX where
 |norm|exit (id:Nat)|ret
end den
end Go.Den
namespace Go.Den
mutual
@[reducible] def VT.Ty:VT->Type
 | .bool=>Bool
 | .int _=>Int
 | .str=>List UInt8
 | .list t=>List (El t)
 | .el t=>El t
 | .arr t _=>List (El t)
 | .konst _=>Unit
 | .agg l=>VTL.Ty l
@[reducible] def VTL.Ty:List VT->Type
 |[]=>Unit
 | .konst _::r=>VTL.Ty r
 |v::r=>v.Ty×VTL.Ty r
end
@[reducible] def BT.Ty:BT->Type
 | .var l=>VTL.Ty l
 | .row t=>List (El t)
 | .map t=>List (Int×El t)
 | .konst _=>Unit
@[reducible] def BTL.Ty:List BT->Type
 |[]=>Unit
 | .konst _::r=>BTL.Ty r
 |b::r=>b.Ty×BTL.Ty r
mutual
def same:AV->AV->Bool
 | .dead,a=>Nat.beq a.width 1
 | .nilp,.nilp=>true
 | .nils,.nils=>true
 | .nilf,.nilf=>true
 | .ptr b o,.ptr c p=>Nat.beq b c&&Nat.beq o p
 | .vec b,.vec c=>Nat.beq b c
 | .mapr b,.mapr c=>Nat.beq b c
 | .func (.func f) a c,.func (.func g) a' c'=>Nat.beq f g&&Cc a a'&&Cc c c'
 |_,_=>false
def Cc:List AV->List AV->Bool
 |[],[]=>true
 |a::r,b::q=>same a b&&Cc r q
 |_,_=>false
end
mutual
def VT.pack:(v:VT)->AV->Option v.Ty
 | .bool,.bool b=>some b
 | .int k,.int j n=>match pK k j with
  |true=>some n
  |false=>none
 | .str,.str s=>some s
 | .list _,.list _ xs=>ww xs
 | .list _,.nils=>some []
 | .el t,.agg cs=>dec t cs
 | .arr _ n,.arr _ m xs=>match Nat.beq n m with
  |true=>ww xs
  |false=>none
 | .konst c,a=>match same c a with
  |true=>some ()
  |false=>none
 | .agg l,.agg cs=>VTL.pack l cs
 |_,_=>none
def VTL.pack:(l:List VT)->List AV->Option (VTL.Ty l)
 |[],[]=>some ()
 | .konst c::r,a::as=>match same c a with
  |true=>VTL.pack r as
  |false=>none
 | .bool::r,a::as=>match VT.pack .bool a,VTL.pack r as with|some x,some y=>some (x,y)|_,_=>none
 | .int k::r,a::as=>match VT.pack (.int k) a,VTL.pack r as with|some x,some y=>some (x,y)|_,_=>none
 | .str::r,a::as=>match VT.pack .str a,VTL.pack r as with|some x,some y=>some (x,y)|_,_=>none
 | .list t::r,a::as=>match VT.pack (.list t) a,VTL.pack r as with|some x,some y=>some (x,y)|_,_=>none
 | .el t::r,a::as=>match VT.pack (.el t) a,VTL.pack r as with|some x,some y=>some (x,y)|_,_=>none
 | .arr t n::r,a::as=>match VT.pack (.arr t n) a,VTL.pack r as with|some x,some y=>some (x,y)|_,_=>none
 | .agg l::r,a::as=>match VT.pack (.agg l) a,VTL.pack r as with|some x,some y=>some (x,y)|_,_=>none
 |_,_=>none
end
mutual
def VT.un:(v:VT)->v.Ty->AV
 | .bool,b=> .bool b
 | .int k,n=> .int k n
 | .str,s=> .str s
 | .list t,xs=> .list t xs
 | .el t,x=> .agg (enc t x)
 | .arr t n,xs=> .arr t n xs
 | .konst c,_=>c
 | .agg l,x=> .agg (VTL.un l x)
def VTL.un:(l:List VT)->VTL.Ty l->List AV
 |[],_=>[]
 | .konst c::r,x=>c::VTL.un r x
 | .bool::r,x=>VT.un .bool x.1::VTL.un r x.2
 | .int k::r,x=>VT.un (.int k) x.1::VTL.un r x.2
 | .str::r,x=>VT.un .str x.1::VTL.un r x.2
 | .list t::r,x=>VT.un (.list t) x.1::VTL.un r x.2
 | .el t::r,x=>VT.un (.el t) x.1::VTL.un r x.2
 | .arr t n::r,x=>VT.un (.arr t n) x.1::VTL.un r x.2
 | .agg l::r,x=>VT.un (.agg l) x.1::VTL.un r x.2
end
def BT.pack:(b:BT)->Blk->Option b.Ty
 | .var l,.var cs=>VTL.pack l cs
 | .row _,.row _ xs false=>ww xs
 | .map t,.map t' es=>if h:t'=t then some (h▸es)else none
 | .konst .gone,_=>some ()
 |_,_=>none
def BT.un:(b:BT)->b.Ty->Blk
 | .var l,x=> .var (VTL.un l x)
 | .row t,xs=> .row t xs false
 | .map t,es=> .map t es
 | .konst c,_=>c
def BTL.pack:(l:List BT)->List Blk->Option (BTL.Ty l)
 |[],[]=>some ()
 | .konst c::r,b::bs=>match BT.pack (.konst c) b with
  |some _=>BTL.pack r bs
  |none=>none
 | .var l::r,b::bs=>match BT.pack (.var l) b,BTL.pack r bs with|some x,some y=>some (x,y)|_,_=>none
 | .map t::r,b::bs=>match BT.pack (.map t) b,BTL.pack r bs with|some x,some y=>some (x,y)|_,_=>none
 | .row t::r,b::bs=>match BT.pack (.row t) b,BTL.pack r bs with|some x,some y=>some (x,y)|_,_=>none
 |_,_=>none
def BTL.un:(l:List BT)->BTL.Ty l->List Blk
 |[],_=>[]
 | .konst c::r,x=>c::BTL.un r x
 | .var l::r,x=>BT.un (.var l) x.1::BTL.un r x.2
 | .row t::r,x=>BT.un (.row t) x.1::BTL.un r x.2
 | .map t::r,x=>BT.un (.map t) x.1::BTL.un r x.2
@[reducible] def Desc.Ty (D:Desc):Type:=VTL.Ty (D.ts.map (·.2))×BTL.Ty D.hs
def Dq:Nat->Nat->List Nat
 |0,_=>[]
 |n+1,i=>i::Dq n (i+1)
def xq (n:Nat):List Nat:=Dq n 0
def G2 (blk:Nat->Blk):List Nat->List Nat
 |[]=>[]
 |b::r=>refsB (blk b)++G2 blk r
def m9 (s:St)(own:Bool)(vs:List AV):List Nat:=pf s.blk 60 (G2 s.blk (xq s.np)++kL own vs) (xq s.np)
def GJ:Nat->List BT->List Blk->Bool
 |0,_,_=>true
 |n+1,.konst _::r,b::bs=>(match b with| .gone=>true|_=>false)&&GJ n r bs
 |n+1,_::r,_::bs=>GJ n r bs
 |_,_,_=>false
def Desc.packK (D:Desc)(s:St)(vs:List AV)(keep:List Nat):Option D.Ty:=
 match GJ s.np D.hs (gx (oS keep · 0) s.blk s.blk keep)with
 |true=>match VTL.pack (D.ts.map (·.2)) (wq (oS keep · 0) s.blk vs),BTL.pack D.hs (gx (oS keep · 0) s.blk s.blk keep)with
  |some x,some y=>some (x,y)
  |_,_=>none
 |false=>none
def zv (s:St)(x:Nat×Nat×Tag):St:=match x with
 |(i,0,t)=>match s.get i with
  | .nils=>{s with t:=(i,.vec s.n)::s.t,h:=(s.n,.row t [] false)::s.h,n:=s.n+1}
  |_=>s
 |(i,j+1,t)=>match s.get i with
  | .agg cs=>match nth cs j with
   |some .nils=>{s with t:=(i,.agg (setN cs j (.vec s.n)))::s.t,h:=(s.n,.row t [] false)::s.h,n:=s.n+1}
   |_=>s
  | .ptr b _=>match s.blk b with
   | .var cs=>match nth cs j with
    |some .nils=>{s with h:=(b,.var (setN cs j (.vec s.n)))::(s.n,.row t [] false)::s.h,n:=s.n+1}
    |_=>s
   |_=>s
  |_=>s
def uY:List (Nat×Nat×Tag)->St->St
 |[],s=>s
 |x::r,s=>uY r (zv s x)
def Desc.pack0 (D:Desc)(s:St):Option D.Ty:=
 D.packK s (D.ts.map fun t=>s.get t.1) (m9 s true (D.ts.map fun t=>s.get t.1))
def Desc.pack (D:Desc)(s:St):Option D.Ty:=D.pack0 (uY D.nl s)
def J5:List (Nat×VT)->List AV->List (Nat×AV)
 |(i,_)::r,a::as=>(i,a)::J5 r as
 |_,_=>[]
def Desc.un (D:Desc)(s:St)(x:D.Ty):St:=
 let bs:=BTL.un D.hs x.2
 {s with t:=J5 D.ts (VTL.un (D.ts.map (·.2)) x.1),h:=iM 0 bs [],n:=lenN D.hs}
inductive Ann where
 |unroll (n:Nat)
 |loop (D:Desc)
 |loop2 (D D':Desc)
def BW (D D':Desc)(s:St):Option (Sum D.Ty D'.Ty):=match D.pack s with
 |some x=>some (.inl x)
 |none=>match D'.pack s with
  |some x=>some (.inr x)
  |none=>none
structure Anns where
 loops:Tr Ann
 joins:Tr Desc
 nl:List (Nat×Nat×Tag)
section
variable {α:Type}(E:Tr Sem1)(T:Tr TI)(A:Anns)(F:Nat)
def Cr (go:St->(DX->St->Option α)->Option α):Nat->St->(DX->St->Option α)->Option α
 |0,_,_=>none
 |n+1,s,K=>go s fun e s'=>match e with
  | .norm=>Cr go n s' K
  |e=>K e s'
def Ko:Code->Bool
 | .skip=>true
 |_=>false
def joinKey (i:Nat)(a b:Code):Nat:=match Ko a||Ko b with
 |true=>2*i
 |false=>2*i+1
noncomputable def den:Code->Nat->(α:Type)->St->(DX->St->Option α)->Option α
 | .skip,_,_,s,K=>K .norm s
 | .region _ ops draw,_,_,s,K=>yO E T ops.toList draw (uY A.nl s) fun s'=>K .norm s'
 | .seq a b,lp,α,s,K=>den a lp α s fun e s'=>match e with
  | .norm=>den b lp α s' K
  |e=>K e s'
 | .cond c a b,lp,α,s,K=>match s.ev c with
  | .anyb p d=>br p (eqO (den a lp α s K) (den b lp α s K)) (br d (den a lp α s K) (den b lp α s K))
  | .bool t=>match(match c with| .tmp i=>A.joins.get (joinKey i a b)|_=>none)with
   |none=>br t (den a lp α s K) (den b lp α s K)
   |some D=>
    let fin:DX->St->Option (Sum D.Ty α):=fun e s'=>match e with
     | .norm=>match D.pack s' with
      |some x=>some (.inl x)
      |none=>none
     |e=>match K e s' with
      |some y=>some (.inr y)
      |none=>none
    bnd (br t (den a lp _ s fin) (den b lp _ s fin)) fun z=>ba z (fun x=>K .norm (D.un s x)) some
  |_=>none
 | .block id c,_,α,s,K=>den c id α s fun e s'=>match e with
  | .exit i=>match Nat.beq i id with
   |true=>K .norm s'
   |false=>K (.exit i) s'
  |e=>K e s'
 | .loop c,lp,α,s,K=>match A.loops.get lp with
  |none=>none
  |some (.unroll n)=>Cr (fun s K=>den c lp α s K) n s K
  |some (.loop D)=>match D.pack s with
   |none=>none
   |some x0=>iter F (fun rec x=>den c lp α (D.un s x) fun e s'=>match e with
     | .norm=>match D.pack s' with
      |some y=>rec y
      |none=>none
     |e=>K e s') x0
  |some (.loop2 D D')=>match BW D D' s with
   |none=>none
   |some x0=>iter F (fun rec x=>ba x (fun y=>den c lp α (D.un s y) fun e s'=>match e with
     | .norm=>match BW D D' s' with
      |some z=>rec z
      |none=>none
     |e=>K e s') (fun y=>den c lp α (D'.un s y) fun e s'=>match e with
     | .norm=>match BW D D' s' with
      |some z=>rec z
      |none=>none
     |e=>K e s')) x0
 | .exit id,_,_,s,K=>K (.exit id) s
 | .ret,_,_,s,K=>K .ret s
 |_,_,_,_,_=>none
def HR (T:Tr TI)(s:St):List ResultVar->Option (List AV)
 |[]=>some []
 | .tmp t::r=>match HR T s r with|some l=>some (s.get t::l)|none=>none
 | .cell a t::r=>match yB T s t (s.get a),HR T s r with
  | .ret [] e,some l=>some (e.v::l)
  |_,_=>none
def Kt:Nat->List AV->List (Nat×AV)
 |_,[]=>[]
 |i,a::r=>(i,a)::Kt (i+1) r
def oneV:List AV->Option AV
 |[v]=>some v
 |vs=>match vs.all fun v=>match v with| .tup _=>false|_=>true with
  |true=>some (.tup vs)
  |false=>none
def finK (own:Bool)(s:St)(v:AV)(k:AV->List Blk->Option α):Option α:=
 k (ren (oS (m9 s own [v]) · 0) s.blk v) (gx (oS (m9 s own [v]) · 0) s.blk s.blk (m9 s own [v]))
noncomputable def denF (fn:Func)(own:Bool)(wr:List (Nat×Nat×Nat))(args:List AV)(hs:List Blk)(k:AV->List Blk->Option α):Option α:=
 match fn.body with
 |none=>none
 |some c=>den E T A F c 0 α {t:=Kt 0 args,h:=iM 0 hs [],n:=lenN hs,np:=lenN hs,al:=wr,w:=false} fun e s=>match e with
  | .exit _=>none
  |_=>match HR T s fn.results.toList with
   |none=>none
   |some vs=>match oneV vs with
    |some v=>finK own s v k
    |none=>none
end
end Go.Den
namespace Go.Den
inductive RT where
 |one (t:VT)
 |tup (l:List VT)
@[reducible] def RT.Ty:RT->Type
 | .one t=>t.Ty
 | .tup l=>VTL.Ty l
def RT.pack:(r:RT)->AV->Option r.Ty
 | .one t,a=>t.pack a
 | .tup l,.tup vs=>VTL.pack l vs
 | .tup _,_=>none
def RT.un:(r:RT)->r.Ty->AV
 | .one t,x=>t.un x
 | .tup l,x=> .tup (VTL.un l x)
def iK:Nat->List VT->List (Nat×VT)
 |_,[]=>[]
 |n,t::r=>(n,t)::iK (n+1) r
structure Sig where
 D:Desc
 r:RT
 ks:List BT
 wr:List (Nat×Nat×Nat)
 own:Bool
 ownR:Bool:=false
 nlR:List (Nat×Nat×Tag):=[]
 mv:List Nat:=[]
def Sig.packR (σ:Sig)(np:Nat)(v:AV)(hs:List Blk):Option (σ.r.Ty×BTL.Ty σ.ks):=match GJ np σ.ks hs with
 |true=>match σ.r.pack v,BTL.pack σ.ks hs with
  |some p,some q=>some (p,q)
  |_,_=>none
 |false=>none
def argS (wr:List (Nat×Nat×Nat))(args:List AV)(hs:List Blk):St:={t:=Kt 0 args,h:=iM 0 hs [],n:=lenN hs,np:=lenN hs,al:=wr,w:=false}
def Sig.sem (σ:Sig)(S:σ.D.Ty->Option (σ.r.Ty×BTL.Ty σ.ks)):Sem1:=⟨σ.wr,σ.own,fun _ args hs k=>match Nat.beq (lenN hs) (lenN σ.D.hs)&&Nat.beq (lenN args) (lenN σ.D.ts)with
 |true=>match σ.D.pack (argS σ.wr args hs)with
  |some x=>bnd (S x) fun z=>k (σ.r.un z.1) (BTL.un σ.ks z.2)
  |none=>none
 |false=>none⟩
def mvN (i n j:Nat):Option Nat:=match Nat.beq j i with
 |true=>some n
 |false=>some j
def renT (σ:Nat->Option Nat)(blk:Nat->Blk):List (Nat×AV)->List (Nat×AV)
 |[]=>[]
 |(k,v)::r=>(k,ren σ blk v)::renT σ blk r
def renH (σ:Nat->Option Nat)(blk:Nat->Blk):List (Nat×Blk)->List (Nat×Blk)
 |[]=>[]
 |(k,b)::r=>(k,nV σ blk b)::renH σ blk r
def Kn:Blk->Bool
 | .row _ _ _=>true
 |_=>false
def St.mv1 (s:St)(i:Nat):St:=match Kn (s.blk i)&&(lY i s.al&&Nat.blt i s.np)with
 |true=>{s with t:=renT (mvN i s.n) s.blk s.t,h:=(i,.gone)::(s.n,s.blk i)::renH (mvN i s.n) s.blk s.h,n:=s.n+1}
 |false=>s
def St.mvs (s:St):List Nat->St
 |[]=>s
 |i::r=>(s.mv1 i).mvs r
section
variable (E:Tr Sem1)(T:Tr TI)(A:Anns)(F:Nat)
noncomputable def Sig.den (σ:Sig)(fn:Func)(x:σ.D.Ty):Option (σ.r.Ty×BTL.Ty σ.ks):=match fn.body with
 |none=>none
 |some c=>Go.Den.den E T A F c 0 _ ((σ.D.un {t:=[],h:=[],n:=0,np:=lenN σ.D.hs,al:=σ.wr,w:=false} x).mvs σ.mv) fun e s=>match e with
  | .exit _=>none
  |_=>match HR T (uY σ.nlR s) fn.results.toList with
   |none=>none
   |some vs=>match oneV vs with
    |some v=>finK σ.ownR (uY σ.nlR s) v (σ.packR (lenN σ.D.hs))
    |none=>none
end
noncomputable def Ga (E:Tr Sem1)(T:Tr TI)(A:Anns)(F:Nat)(fn:Func)(own:Bool)(wr:List (Nat×Nat×Nat)):Sem1:=
 ⟨wr,own,fun _ args hs k=>match Nat.ble (lenN args) fn.ntmps with
  |true=>denF E T A F fn own wr args hs k
  |false=>none⟩
def Cv:Sem1:=⟨[],false,fun _ args hs k=>match args,hs with
 |[.int .u64 a,.int .u64 b,.int .u64 c],[]=>br (y4 a) (br (y4 b) (br (EN c) (k (.tup [.int .u64 (uU a b c),.int .u64 (zg a b c)]) []) none) none) none
 |_,_=>none⟩
def AI:Sem1:=⟨[],false,fun _ args hs k=>match args,hs with
 |[.int .u64 a,.int .u64 b,.int .u64 c],[]=>br (y4 a) (br (y4 b) (br (EN c) (k (.tup [.int .u64 (rB a b c),.int .u64 (pw a b c)]) []) none) none) none
 |_,_=>none⟩
def Tr.All.{u}{α:Type u}(p:Nat->α->Prop):Tr α->Prop
 | .lf=>True
 | .nd k v l r=>p k v/\l.All p/\r.All p
theorem Tr.All.get.{u}{α:Type u}{p:Nat->α->Prop}:∀ {t:Tr α},t.All p->∀k v,t.get k=some v->p k v
 | .lf,_,_,_,h=>by cases h
 | .nd k' v' l r,hp,k,v,h=>by
  simp only[Tr.get]at h
  split at h
  ·rename_i hk
   cases h
   rw[Nat.beq_eq]at hk
   rw[hk]
   exact hp.1
  ·split at h
   ·exact hp.2.1.get k v h
   ·exact hp.2.2.get k v h
end Go.Den
namespace Go.Den
def iO {α:Type}(t:Int×Int×Int×Int×Int×Int×Int×α):Opd:=⟨t.1,t.2.1,t.2.2.1,t.2.2.2.1,t.2.2.2.2.1,t.2.2.2.2.2.1,t.2.2.2.2.2.2.1⟩
def dw {α:Type}(x:Opd)(r:α):Int×Int×Int×Int×Int×Int×Int×α:=(x.kind,x.reg,x.base,x.index,x.scale,x.disp,x.imm,r)
def m8 {α:Type}(t:Int×Int×Int×Int×Int×Int×Int×Int×Int×Int×Int×Int×Int×Int×Int×Int×Int×Int×Int×α):Ins:=
 ⟨t.1,t.2.1,t.2.2.1,t.2.2.2.1,iO t.2.2.2.2,iO t.2.2.2.2.2.2.2.2.2.2.2,t.2.2.2.2.2.2.2.2.2.2.2.2.2.2.2.2.2.2.1⟩
def ew {α:Type}(x:Ins)(r:α):Int×Int×Int×Int×Int×Int×Int×Int×Int×Int×Int×Int×Int×Int×Int×Int×Int×Int×Int×α:=
 (x.op,x.size,x.cond,x.frm,dw x.dst (dw x.src (x.len,r)))
def i64B (n:Int):Bool:=leI (-9223372036854775808) n&&leI n 9223372036854775807
def pItoa (n:Int):Option (List UInt8×Unit):=br (i64B n) (some (Go.Lib.itoa n,())) none
end Go.Den
