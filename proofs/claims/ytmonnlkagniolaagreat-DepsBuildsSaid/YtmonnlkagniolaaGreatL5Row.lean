/-
 DepsBuilds:for every input the law answers true,and each of its arguments reads behind the call as it read before. There is no further condition.
-/
import Derived.ProofKit
import Derived.Carry
import Derived.Test.YtmonnlkagniolaaGreatRows
import Derived.Test.YtmonnlkagniolaaGreatL5Lw
import Derived.Test.YtmonnlkagniolaaGreatKSimCellsGaAuDl
set_option maxRecDepth 100000
set_option maxHeartbeats 4000000
namespace Go.Proofs.YtmonnlkagniolaaGreat
open Go Go.Pb Go.ChangeShapes Go.WideShapes Go.ChangeAt Go.RowKit
theorem DepsBuilds_own:ownKnob Tryz.prog.godebug=Option.none:=by kernel_rfl
theorem DepsBuilds_laid:laidOutB Tryz.prog=true:=by kernel_rfl
theorem DepsBuilds_okTs:okTs Tryz.prog=true:=by kernel_rfl
theorem DepsBuilds_ts:∀t∈Tryz.f5.params.toList,Tryz.prog.readableRec t=true/\t < Tryz.prog.types.size/\∃d,Tryz.prog.underlying t=some d:=by
 have h:(Tryz.f5.params.toList.all λt=>Tryz.prog.readableRec t&&(decide (t < Tryz.prog.types.size)&&(Tryz.prog.underlying t).isSome))=true:=by kernel_rfl
 intro t ht;have h1:=List.all_eq_true.mp h t ht;simp only[Bool.and_eq_true,decide_eq_true_eq]at h1;exact⟨h1.1,h1.2.1,Option.isSome_iff_exists.mp h1.2.2⟩
theorem DepsBuilds_lifted(os:Os)(started:os.Started)(H:Type)(enc:TypeId×Value->H):
 ReturnsInHanded {} Tryz.checked os 5 .any (Rows.depsBuildsSpec.pre6 enc Tryz.prog Tryz.f5 Rows.depsBuildsRow.domain false) (Rows.depsBuildsSpec.post enc Tryz.prog Tryz.f5 false true false false):=by
 refine returnsInHanded_of_change (C:=Tryz.checked) DepsBuilds_own started Y Tryz.func5
  (ChangeSpec.witness6 (enc:=enc) (C:=Tryz.checked) false ⟨#[],#[.agg #[.string ⟨#[]⟩,.slice none 0 0,.slice none 0 0,.slice none 0 0,.slice none 0 0,.slice none 0 0,.slice none 0 0,.slice none 0 0,.slice none 0 0],.slice none 0 0],[]⟩ 64 Y Y Y Y) ?_
 intro W base args ds gs before hval0 hW hcnd _;have hval:∀(j:Nat) t v,Tryz.f5.params[j]?=some t->args[j]?=some v->Value.okWide Tryz.prog W .any base t v:=hval0;have hds:Rows.depsBuildsSpec.fn H ds={results:=[.lit (.bool true)],args:=ds}:=by
  obtain⟨p,q,hA0,_⟩:=hW;have hA:DataW.TrodAll enc Tryz.prog W 0 (λ_=>true) true Tryz.f5.params.toList args.toList ds p:=hA0;rw[Tryz.params5]at hA;obtain⟨v0,v1,d0,d1,p0,p1,_,rfl,_⟩:=trodAll_two hA;rfl
 exact bx4 (t:=4) DepsBuilds_okTs DepsBuilds_laid DepsBuilds_ts O Y O hds hval hW (λcss h=>DepsBuilds_row DepsBuilds_law css h)
theorem DepsBuilds_both{a b:Bool}(h:a=true)(k:b=true):(a&&b)=true:=by rw[h,k];rfl
theorem DepsBuilds_joined:joinedFacts Tryz.pinned.checked.prog 5 Tryz.f5 Rows.depsBuildsSpec Rows.depsBuildsRow=true:=by
 unfold joinedFacts;iterate 31 (refine DepsBuilds_both ?_ (by as_aux_lemma=>kernel_rfl))
 as_aux_lemma=>kernel_rfl
theorem DepsBuilds_holds:Rows.DepsBuildsSaid:=
 OpenClaim.holds_of_wide 5 Tryz.f5 rfl rfl rfl rfl rfl rfl rfl ⟨rfl,rfl,rfl,rfl,rfl⟩ rfl rfl rfl rfl rfl Y Tryz.func5 DepsBuilds_joined
  (of_decide_eq_true Y) (by unfold Func.isWrapper;first|(rw[if_pos (by decide+kernel)];kernel_rfl)|(rw[if_neg (by decide+kernel)];exact⟨O,O⟩))
  (λos started H enc _=>DepsBuilds_lifted os started H enc)
end Go.Proofs.YtmonnlkagniolaaGreat
