/- Steps in two parts are as steps at once, and behind a fault there is none. Conditions: none beyond the statement's own. -/
import Derived.Test.YtgpplhdmdndffaaGreatLkParts
import Derived.Test.YtgpplhdmdndffaaGreatPuParts
import Derived.Test.YtgpplhdmdndffaaGreatRows
import Derived.WalkKit
import Derived.ProofKit
import Derived.OpenShut
import Derived.ShutString
import Derived.ChangeOld
import Derived.Below
import Derived.SizedLaws
set_option linter.unusedSimpArgs false
namespace Go.Proofs.YtgpplhdmdndffaaGreat.fnParts
open Go.Den.G Go.ChangeShapes Go.WideShapes Go.ChangeAt Go.RowKit Go.Den Go.Proofs.YtgpplhdmdndffaaGreat.Parts
set_option linter.unusedVariables false
theorem own:ownKnob Tryz.prog.godebug=none:=by kernel_rfl
theorem laidOut:laidOutB Tryz.prog=true:=by kernel_rfl
theorem law_run (y:VTL.Ty [.list .u,.list .u]):(g220.sem iC).run Unit (VTL.un [.list .u,.list .u] y) [] (fun r _=>match r with| .bool true=>some ()|_=>none)=bnd (iC (y,())) (fun z=>match AV.bool z.1 with| .bool true=>some ()|_=>none):=by kernel_rfl
set_option maxRecDepth 100000 in
theorem lifted (os:Os)(started:os.Started)(H:Type)(enc:TypeId×Value->H):
  ReturnsInHanded {} Tryz.checked os 4 .any (Rows.fnPartsSpec.pre6 enc Tryz.prog Tryz.f4 Rows.fnPartsRow.domain false) (Rows.fnPartsSpec.post enc Tryz.prog Tryz.f4 false true false false):=by
 refine returnsInHanded_of_change_sized (C:=Tryz.checked) own started (by kernel_rfl) Tryz.func4
  (ChangeSpec.witness6 (enc:=enc) (C:=Tryz.checked) false ⟨#[],#[.slice none 0 0,.slice none 0 0],[]⟩ 8 (by kernel_rfl) (by kernel_rfl) (by kernel_rfl) (by kernel_rfl)) ?_
 intro W base args ds gs before hval0 hW hcnd hsz0 _
 have hLy:Go.Den.Lay.In Ly W (fun c=>c<W.heap.size):=lay_nil
 have hval:∀(j:Nat) t v,Tryz.f4.params[j]? =some t->args[j]? =some v->Value.okWide Tryz.prog W .any base t v:=hval0
 have hW':=hW
 obtain⟨p,q,hA0,hV,rfl,hfz,hnd⟩:=hW
 have hA:DataW.TrodAll enc Tryz.prog W 0 (fun _=>true) true Tryz.f4.params.toList args.toList ds p:=hA0
 have hA2:=hA
 rw[Tryz.params4]at hA
 obtain⟨v0,vs0,d0,ds0,p0,q0,hargs0,rfl,_,h0,r0⟩:=trodAll_cons hA
 obtain⟨v1,vs1,d1,ds1,p1,q1,hargs1,rfl,_,h1,r1⟩:=trodAll_cons r0
 obtain⟨_,rfl,_⟩:=trodAll_nil r1
 obtain⟨rfl,rfl⟩:=trodVars_none hV
 obtain⟨y,hy,hwf⟩:=zm (enc':=enc) (C:=cx0 W) tok (fun _ h=>h) Tryz.f4.params.toList [.list .u,.list .u] args.toList _ p (by kernel_rfl) hA2 (fun j t v h1 h2=>hval j t v (by simpa using h1) (by simpa using h2))
 have hrun:(g220.sem iC).run Unit (VTL.un [.list .u,.list .u] y) [] (fun r _=>match r with| .bool true=>some ()|_=>none)=some ():=by rw[law_run,Es y hwf];rfl
 refine(Gm Tryz.func4 (by kernel_rfl) (by kernel_rfl) o220 rfl hLy hy hrun).mono fun e W' ⟨he,bel⟩=>?_
 subst he
 exact⟨_,rfl,_,_,_,[],_,[],hW',trodAll_mk1 (shut_bool Tryz.underlying4 _),zn laidOut bel _ _ _ _ (by kernel_rfl) hA2,rfl,bel.frame _,fun h=>by cases h⟩
set_option maxHeartbeats 40000000 in
theorem facts:joinedFacts Tryz.prog 4 Tryz.f4 Rows.fnPartsSpec Rows.fnPartsRow=true:=by
 unfold joinedFacts
 simp only[ar]
 (repeat' apply And.intro)<;>decide +kernel
theorem over:Rows.fnPartsRow.holds Tryz.pinned (OpenSpec.ofChange Rows.fnPartsSpec):=
 OpenClaim.holds_of_wide 4 Tryz.f4 rfl rfl rfl rfl rfl rfl rfl ⟨rfl,rfl,rfl,rfl,rfl⟩ rfl rfl rfl rfl rfl (by kernel_rfl) Tryz.func4 facts
  (bh (by kernel_rfl)) (by unfold Func.isWrapper;first|(rw[aa (by decide +kernel)];kernel_rfl)|(rw[ae (by decide +kernel)];exact⟨rfl,rfl⟩))
  (fun os started H enc _=>lifted os started H enc)
theorem proved:Rows.FnPartsSaid:=over
#print axioms proved
end Go.Proofs.YtgpplhdmdndffaaGreat.fnParts
namespace Go.Proofs.YtgpplhdmdndffaaGreat
theorem fnParts_holds:Rows.FnPartsSaid:=fnParts.proved
end Go.Proofs.YtgpplhdmdndffaaGreat
