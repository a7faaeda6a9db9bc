/-
 AccessSorted:for every input the law answers true,and each of its arguments reads behind the call as it read before. There is no further condition.
-/
import Derived.ProofKit
import Derived.Carry
import Derived.Test.YtmonnlkagniolaaRows
import Derived.Test.YtmonnlkagniolaaL3Lw
import Derived.Test.YtmonnlkagniolaaKCellsAs
set_option maxRecDepth 100000
namespace Go.Proofs.Ytmonnlkagniolaa
open Go Go.Pb Go.ChangeShapes Go.WideShapes Go.ChangeAt Go.RowKit
theorem AccessSorted_own:ownKnob Try.prog.godebug=Option.none:=by kernel_rfl
theorem AccessSorted_laid:laidOutB Try.prog=true:=by kernel_rfl
theorem AccessSorted_okTs:okTs Try.prog=true:=by kernel_rfl
theorem AccessSorted_ts:∀t∈Try.f3.params.toList,Try.prog.readableRec t=true/\t < Try.prog.types.size/\∃d,Try.prog.underlying t=some d:=by
 have h:(Try.f3.params.toList.all λt=>Try.prog.readableRec t&&(decide (t < Try.prog.types.size)&&(Try.prog.underlying t).isSome))=true:=by kernel_rfl
 intro t ht;have h1:=List.all_eq_true.mp h t ht;simp only[Bool.and_eq_true,decide_eq_true_eq]at h1;exact⟨h1.1,h1.2.1,Option.isSome_iff_exists.mp h1.2.2⟩
theorem AccessSorted_lifted(os:Os)(started:os.Started)(H:Type)(enc:TypeId×Value->H):
 ReturnsInHanded {} Try.checked os 3 .any (Rows.accessSortedSpec.pre6 enc Try.prog Try.f3 Rows.accessSortedRow.domain false) (Rows.accessSortedSpec.post enc Try.prog Try.f3 false true false false):=by
 refine returnsInHanded_of_change (C:=Try.checked) AccessSorted_own started Y Try.func3
  (ChangeSpec.witness6 (enc:=enc) (C:=Try.checked) false ⟨#[],#[.agg #[.string ⟨#[]⟩,.slice none 0 0,.slice none 0 0,.slice none 0 0,.slice none 0 0,.slice none 0 0,.slice none 0 0,.slice none 0 0,.slice none 0 0],.agg #[.int .i64 0,.slice none 0 0,.slice none 0 0]],[]⟩ 64 Y Y Y Y) ?_
 intro W base args ds gs before hval0 hW hcnd _;have hval:∀(j:Nat) t v,Try.f3.params[j]?=some t->args[j]?=some v->Value.okWide Try.prog W .any base t v:=hval0;have hds:Rows.accessSortedSpec.fn H ds={results:=[.lit (.bool true)],args:=ds}:=by
  obtain⟨p,q,hA0,_⟩:=hW;have hA:DataW.TrodAll enc Try.prog W 0 (λ_=>true) true Try.f3.params.toList args.toList ds p:=hA0;rw[Try.params3]at hA;obtain⟨v0,v1,d0,d1,p0,p1,_,rfl,_⟩:=trodAll_two hA;rfl
 exact law_true (t:=4) AccessSorted_okTs AccessSorted_laid AccessSorted_ts O Y O hds hval hW (λcss h=>AccessSorted_row AccessSorted_law css h)
theorem AccessSorted_holds:Rows.AccessSortedSaid:=
 OpenClaim.holds_of_wide 3 Try.f3 rfl rfl rfl rfl rfl rfl rfl ⟨rfl,rfl,rfl,rfl,rfl⟩ rfl rfl rfl rfl rfl Y Try.func3 Y
  (of_decide_eq_true Y) (by unfold Func.isWrapper;first|(rw[if_pos (by decide+kernel)];kernel_rfl)|(rw[if_neg (by decide+kernel)];exact⟨O,O⟩))
  (λos started H enc _=>AccessSorted_lifted os started H enc)
end Go.Proofs.Ytmonnlkagniolaa
