/-
 AccessWrites:for every input whose values and letters are together at most 1048576,the law answers true,and each of its arguments reads behind the call as it read before. There is no further condition.
-/
import Derived.ProofKit
import Derived.Carry
import Derived.JoinedCond
import Derived.Test.YtmonnlkagniolaaGreatRows
import Derived.Test.YtmonnlkagniolaaGreatPbLaw
import Derived.Test.YtmonnlkagniolaaGreatL4Lw
import Derived.Test.YtmonnlkagniolaaGreatKCellsWc
set_option maxRecDepth 100000
set_option maxHeartbeats 4000000
namespace Go.Proofs.YtmonnlkagniolaaGreat
open Go Go.Pb Go.ChangeShapes Go.WideShapes Go.ChangeAt Go.RowKit
theorem AccessWrites_own:ownKnob Tryz.prog.godebug=Option.none:=by kernel_rfl
theorem AccessWrites_laid:laidOutB Tryz.prog=true:=by kernel_rfl
theorem AccessWrites_okTs:okTs Tryz.prog=true:=by kernel_rfl
theorem AccessWrites_ts:∀t∈Tryz.f4.params.toList,Tryz.prog.readableRec t=true/\t < Tryz.prog.types.size/\∃d,Tryz.prog.underlying t=some d:=by
 have h:(Tryz.f4.params.toList.all λt=>Tryz.prog.readableRec t&&(decide (t < Tryz.prog.types.size)&&(Tryz.prog.underlying t).isSome))=true:=by kernel_rfl
 intro t ht;have h1:=List.all_eq_true.mp h t ht;simp only[Bool.and_eq_true,decide_eq_true_eq]at h1;exact⟨h1.1,h1.2.1,Option.isSome_iff_exists.mp h1.2.2⟩
theorem AccessWrites_bulk{H:Type}:Bulk (H:=H) Rows.uptoBulk Rows.uptoBulkAll where
 one d:=by
  cases d with
  |lit l=>cases l<;>simp[Rows.uptoBulk]
  |_=>simp[Rows.uptoBulk]
 ptr d:=by simp[Rows.uptoBulk]
 sl a b:=by simp only[Rows.uptoBulk];omega
 agg a:=by simp[Rows.uptoBulk]
 nil:=by simp[Rows.uptoBulkAll]
 cons d r:=by simp[Rows.uptoBulkAll]
theorem AccessWrites_lifted(os:Os)(started:os.Started)(H:Type)(enc:TypeId×Value->H)(F:Stop.Interp):
 ReturnsInHanded {} Tryz.checked os 4 .any ((Rows.OpenSpec.upto Rows.accessWritesSpec).pre6 enc Tryz.prog Tryz.f4 Rows.accessWritesUptoRow.domain false) (((Rows.OpenSpec.upto Rows.accessWritesSpec).at F).post enc Tryz.prog Tryz.f4 false true false false):=by
 refine returnsInHanded_of_cond (C:=Tryz.checked) (s:=Rows.OpenSpec.upto Rows.accessWritesSpec) (k:=Rows.uptoSmall) O AccessWrites_own started Z Tryz.func4
  (OpenSpec.witness (enc:=enc) (C:=Tryz.checked) (s:=Rows.OpenSpec.upto Rows.accessWritesSpec) (k:=Rows.uptoSmall) rfl false ⟨#[],#[.agg #[.string ⟨#[]⟩,.slice none 0 0,.slice none 0 0,.slice none 0 0,.slice none 0 0,.slice none 0 0,.slice none 0 0,.slice none 0 0,.slice none 0 0],.int .i64 0,.agg #[.slice none 0 0,.slice none 0 0,.slice none 0 0,.slice none 0 0,.slice none 0 0,.int .i64 0,.slice none 0 0]],[]⟩ 64 Z Z Z
    (x:=([.agg [.lit (.string []),.nil,.nil,.nil,.nil,.nil,.nil,.nil,.nil],.lit (.int .i64 0),.agg [.agg [.nil,.nil,.nil,.nil],.nil,.agg [.lit (.int .i64 0),.nil]]],[],[])) Z rfl Z) ?_
 intro W base args ds gs before hval0 hW _ hk _;have hval:∀(j:Nat) t v,Tryz.f4.params[j]?=some t->args[j]?=some v->Value.okWide Tryz.prog W .any base t v:=hval0;have hds:Rows.accessWritesSpec.fn H ds={results:=[.lit (.bool true)],args:=ds}:=by
  obtain⟨p,q,hA0,_⟩:=hW;have hA:DataW.TrodAll enc Tryz.prog W 0 (λ_=>true) true Tryz.f4.params.toList args.toList ds p:=hA0;rw[Tryz.params4]at hA;obtain⟨v0,v1,v2,d0,d1,d2,p0,p1,p2,_,rfl,_⟩:=trodAll_three hA;rfl
 exact ce2 (t:=4) AccessWrites_bulk AccessWrites_okTs AccessWrites_laid AccessWrites_ts O Z O hds hval hW (of_decide_eq_true hk) (λcss h hw=>AccessWrites_row AccessWrites_law css h hw)
theorem AccessWrites_both{a b:Bool}(h:a=true)(k:b=true):(a&&b)=true:=by rw[h,k];rfl
theorem AccessWrites_joined:joinedFacts Tryz.pinned.checked.prog 4 Tryz.f4 (Rows.OpenSpec.upto Rows.accessWritesSpec).bare Rows.accessWritesUptoRow=true:=by
 unfold joinedFacts;iterate 31 (refine AccessWrites_both ?_ (by as_aux_lemma=>kernel_rfl))
 as_aux_lemma=>kernel_rfl
theorem AccessWrites_holds:Rows.AccessWritesUptoSaid:=
 OpenClaim.holds_of_cond 4 Tryz.f4 rfl rfl rfl rfl rfl rfl rfl ⟨rfl,rfl,rfl,rfl,rfl⟩ rfl rfl rfl rfl rfl Z Tryz.func4 AccessWrites_joined
  (of_decide_eq_true Z) (by unfold Func.isWrapper;first|(rw[if_pos (by decide+kernel)];kernel_rfl)|(rw[if_neg (by decide+kernel)];exact⟨O,O⟩))
  (λos started H enc _ F=>AccessWrites_lifted os started H enc F)
end Go.Proofs.YtmonnlkagniolaaGreat
