/- The program's TraceBox returns what the reference's returns, for all arguments. Conditions: none beyond the statement's own. -/
import Derived.Test.YtlcacoglljcgeaaGreatLkTraceBox
import Derived.Test.YtlcacoglljcgeaaGreatPuTraceBox
import Derived.Test.YtlcacoglljcgeaaGreatRows
import Derived.WalkKit
import Derived.ProofKit
import Derived.OpenShut
import Derived.ShutString
import Derived.ChangeOld
import Derived.Below
import Derived.SizedLaws
namespace Go.Proofs.YtlcacoglljcgeaaGreat.fnExactTraceBox
open Go.Den.G Go.ChangeShapes Go.WideShapes Go.ChangeAt Go.RowKit Go.Den Go.Proofs.YtlcacoglljcgeaaGreat.TraceBox
set_option linter.unusedVariables false
theorem own:ownKnob Tryz.prog.godebug=none:=by kernel_rfl
theorem laidOut:laidOutB Tryz.prog=true:=by kernel_rfl
theorem law_run (y:VTL.Ty [.agg [.arr .i 16,.int .i64,.int .i64,.list .page,.int .i64,.int .i64,.str,.int .i64,.str,.int .i64,.int .i64,.int .i64,.int .i64,.int .i64,.int .i64],.int .i64]):(g234.sem cw).run Unit (VTL.un [.agg [.arr .i 16,.int .i64,.int .i64,.list .page,.int .i64,.int .i64,.str,.int .i64,.str,.int .i64,.int .i64,.int .i64,.int .i64,.int .i64,.int .i64],.int .i64] y) [] (fun r _=>match r with| .bool true=>some ()|_=>none)=bnd (cw (y,())) (fun z=>match AV.bool z.1 with| .bool true=>some ()|_=>none):=by kernel_rfl
set_option maxRecDepth 100000 in
theorem lifted (os:Os)(started:os.Started)(H:Type)(enc:TypeId×Value->H):
  ReturnsInHanded {} Tryz.checked os 3 .any (Rows.fnExactTraceBoxSpec.pre6 enc Tryz.prog Tryz.f3 Rows.fnExactTraceBoxRow.domain false) (Rows.fnExactTraceBoxSpec.post enc Tryz.prog Tryz.f3 false true false false):=by
 refine returnsInHanded_of_change_sized (C:=Tryz.checked) own started (by kernel_rfl) Tryz.func3
  (ChangeSpec.witness6 (enc:=enc) (C:=Tryz.checked) false ⟨#[],#[.agg #[.int .i64 0,.int .i64 0,.int .i64 0,.int .i64 0,.int .i64 0,.int .i64 0,.int .i64 0,.int .i64 0,.int .i64 0,.int .i64 0,.int .i64 0,.int .i64 0,.int .i64 0,.int .i64 0,.int .i64 0,.int .i64 0,.int .i64 0,.int .i64 0,.slice none 0 0,.int .i64 0,.int .i64 0,.string ByteArray.empty,.int .i64 0,.string ByteArray.empty,.int .i64 0,.int .i64 0,.int .i64 0,.int .i64 0,.int .i64 0,.int .i64 0],.int .i64 0],[]⟩ 8 (by kernel_rfl) (by kernel_rfl) (by kernel_rfl) (by kernel_rfl)) ?_
 intro W base args ds gs before hval0 hW hcnd hsz0 _
 have hLy:Go.Den.Lay.In Ly W (fun c=>c<W.heap.size):=lay_nil
 have hval:∀(j:Nat) t v,Tryz.f3.params[j]? =some t->args[j]? =some v->Value.okWide Tryz.prog W .any base t v:=hval0
 have hW':=hW
 obtain⟨p,q,hA0,hV,rfl,hfz,hnd⟩:=hW
 have hA:DataW.TrodAll enc Tryz.prog W 0 (fun _=>true) true Tryz.f3.params.toList args.toList ds p:=hA0
 have hA2:=hA
 rw[Tryz.params3]at hA
 obtain⟨v0,vs0,d0,ds0,p0,q0,hargs0,rfl,_,h0,r0⟩:=trodAll_cons hA
 obtain⟨v1,vs1,d1,ds1,p1,q1,hargs1,rfl,_,h1,r1⟩:=trodAll_cons r0
 obtain⟨_,rfl,_⟩:=trodAll_nil r1
 obtain⟨rfl,rfl⟩:=trodVars_none hV
 obtain⟨y,hy,hwf⟩:=vS (enc':=enc) (C:=cx0 W) tok (fun _ h=>h) Tryz.f3.params.toList [.agg [.arr .i 16,.int .i64,.int .i64,.list .page,.int .i64,.int .i64,.str,.int .i64,.str,.int .i64,.int .i64,.int .i64,.int .i64,.int .i64,.int .i64],.int .i64] args.toList _ p (by kernel_rfl) hA2 (fun j t v h1 h2=>hval j t v (by simpa using h1) (by simpa using h2))
 have hrun:(g234.sem cw).run Unit (VTL.un [.agg [.arr .i 16,.int .i64,.int .i64,.list .page,.int .i64,.int .i64,.str,.int .i64,.str,.int .i64,.int .i64,.int .i64,.int .i64,.int .i64,.int .i64],.int .i64] y) [] (fun r _=>match r with| .bool true=>some ()|_=>none)=some ():=by rw[law_run,va y hwf];rfl
 refine(DD Tryz.func3 (by kernel_rfl) (by kernel_rfl) o234 rfl hLy hy hrun).mono fun e W' ⟨he,bel⟩=>?_
 subst he
 exact⟨_,rfl,_,_,_,[],_,[],hW',trodAll_mk1 (shut_bool Tryz.underlying4 _),vT laidOut bel _ _ _ _ (by kernel_rfl) hA2,rfl,bel.frame _,fun h=>by cases h⟩
set_option maxHeartbeats 40000000 in
theorem facts:joinedFacts Tryz.prog 3 Tryz.f3 Rows.fnExactTraceBoxSpec Rows.fnExactTraceBoxRow=true:=by
 unfold joinedFacts
 simp only[Bool.and_eq_true]
 (repeat' apply And.intro)<;>decide +kernel
theorem over:Rows.fnExactTraceBoxRow.holds Tryz.pinned (OpenSpec.ofChange Rows.fnExactTraceBoxSpec):=
 OpenClaim.holds_of_wide 3 Tryz.f3 rfl rfl rfl rfl rfl rfl rfl ⟨rfl,rfl,rfl,rfl,rfl⟩ rfl rfl rfl rfl rfl (by kernel_rfl) Tryz.func3 facts
  (of_decide_eq_true (by kernel_rfl)) (by unfold Func.isWrapper;first|(rw[if_pos (by decide +kernel)];kernel_rfl)|(rw[if_neg (by decide +kernel)];exact⟨rfl,rfl⟩))
  (fun os started H enc _=>lifted os started H enc)
theorem proved:Rows.FnExactTraceBoxSaid:=over
#print axioms proved
end Go.Proofs.YtlcacoglljcgeaaGreat.fnExactTraceBox
namespace Go.Proofs.YtlcacoglljcgeaaGreat
theorem fnExactTraceBox_holds:Rows.FnExactTraceBoxSaid:=fnExactTraceBox.proved
end Go.Proofs.YtlcacoglljcgeaaGreat
