/-
 DepsProgram:for every input the law answers true,and each of its arguments reads behind the call azq it read before. There is no further condition.
-/
import Derived.ProofKit
import Derived.Carry
import Derived.Test.YtmonnlkagniolaaGreatRows
import Derived.Test.YtmonnlkagniolaaGreatL12Lw
import Derived.Test.YtmonnlkagniolaaGreatKSzUnDpDq
set_option maxRecDepth 100000
set_option maxHeartbeats 4000000
namespace Go.Proofs.YtmonnlkagniolaaGreat
open Go Go.Pb Go.ChangeShapes Go.WideShapes Go.ChangeAt Go.RowKit
theorem DepsProgram_own:ownKnob Tryz.prog.godebug=Option.none:=by kernel_rfl
theorem DepsProgram_laid:laidOutB Tryz.prog=true:=by kernel_rfl
theorem DepsProgram_okTs:okTs Tryz.prog=true:=by kernel_rfl
theorem DepsProgram_ts:∀t∈Tryz.f12.params.toList,Tryz.prog.readableRec t=true/\t < Tryz.prog.types.size/\∃d,Tryz.prog.underlying t=some d:=by
 have h:(Tryz.f12.params.toList.all λt=>Tryz.prog.readableRec t&&(decide (t < Tryz.prog.types.size)&&(Tryz.prog.underlying t).isSome))=true:=by kernel_rfl
 intro t ht;have h1:=List.all_eq_true.mp h t ht;simp only[Bool.and_eq_true,decide_eq_true_eq]at h1;exact⟨h1.1,h1.2.1,Option.isSome_iff_exists.mp h1.2.2⟩
theorem DepsProgram_lifted(os:Os)(started:os.Started)(H:Type)(enc:TypeId×Value->H):
 ReturnsInHanded {} Tryz.checked os 12 .any (Rows.depsProgramSpec.pre6 enc Tryz.prog Tryz.f12 Rows.depsProgramRow.domain false) (Rows.depsProgramSpec.post enc Tryz.prog Tryz.f12 false true false false):=by
 refine returnsInHanded_of_change (C:=Tryz.checked) DepsProgram_own started Y Tryz.func12
  (ChangeSpec.witness6 (enc:=enc) (C:=Tryz.checked) false ⟨#[],#[.agg #[.string ⟨#[]⟩,.slice none 0 0,.slice none 0 0,.slice none 0 0,.slice none 0 0,.slice none 0 0,.slice none 0 0,.slice none 0 0,.slice none 0 0]],[]⟩ 64 Y Y Y Y) ?_
 intro W base args ds gs before hval0 hW hcnd _;have hval:∀(j:Nat) t v,Tryz.f12.params[j]?=some t->args[j]?=some v->Value.okWide Tryz.prog W .any base t v:=hval0;have hds:Rows.depsProgramSpec.fn H ds={results:=[.lit (.bool true)],args:=ds}:=by
  obtain⟨p,q,hA0,_⟩:=hW;have hA:DataW.TrodAll enc Tryz.prog W 0 (λ_=>true) true Tryz.f12.params.toList args.toList ds p:=hA0;rw[Tryz.params12]at hA;obtain⟨v0,d0,_,rfl,_⟩:=trodAll_one hA;rfl
 exact ck5 (t:=4) DepsProgram_okTs DepsProgram_laid DepsProgram_ts O Y O hds hval hW (λcss h=>DepsProgram_row DepsProgram_law css h)
theorem DepsProgram_both{a b:Bool}(h:a=true)(k:b=true):(a&&b)=true:=by rw[h,k];rfl
theorem DepsProgram_joined:joinedFacts Tryz.pinned.checked.prog 12 Tryz.f12 Rows.depsProgramSpec Rows.depsProgramRow=true:=by
 unfold joinedFacts;iterate 31 (refine DepsProgram_both ?_ (by as_aux_lemma=>kernel_rfl))
 as_aux_lemma=>kernel_rfl
theorem DepsProgram_holds:Rows.DepsProgramSaid:=
 OpenClaim.holds_of_wide 12 Tryz.f12 rfl rfl rfl rfl rfl rfl rfl ⟨rfl,rfl,rfl,rfl,rfl⟩ rfl rfl rfl rfl rfl Y Tryz.func12 DepsProgram_joined
  (of_decide_eq_true Y) (by unfold Func.isWrapper;first|(rw[if_pos (by decide+kernel)];kernel_rfl)|(rw[if_neg (by decide+kernel)];exact⟨O,O⟩))
  (λos started H enc _=>DepsProgram_lifted os started H enc)
end Go.Proofs.YtmonnlkagniolaaGreat
