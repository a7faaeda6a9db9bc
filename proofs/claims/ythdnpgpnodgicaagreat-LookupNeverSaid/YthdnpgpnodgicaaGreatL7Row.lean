/-
  LookupNever: for every input the law answers true, and each of its arguments reads behind the call as it read before. There is no further condition.
-/
import Derived.ProofKit
import Derived.Carry
import Derived.Test.YthdnpgpnodgicaaGreatRows
import Derived.Test.YthdnpgpnodgicaaGreatL7Lw
import Derived.Test.YthdnpgpnodgicaaGreatKScSd
set_option maxRecDepth 100000
set_option maxHeartbeats 4000000
namespace Go.Proofs.YthdnpgpnodgicaaGreat
open Go Go.Pb Go.ChangeShapes Go.WideShapes Go.ChangeAt Go.RowKit
theorem LookupNever_own : ownKnob Tryz.prog.godebug = Option.none := by kernel_rfl
theorem LookupNever_laid : laidOutB Tryz.prog = true := by kernel_rfl
theorem LookupNever_okTs : okTs Tryz.prog = true := by kernel_rfl
theorem LookupNever_ts : ∀ t ∈ Tryz.f7.params.toList, Tryz.prog.readableRec t = true ∧ t < Tryz.prog.types.size ∧ ∃ d, Tryz.prog.underlying t = some d := by
  have h : (Tryz.f7.params.toList.all fun t => Tryz.prog.readableRec t && (decide (t < Tryz.prog.types.size) && (Tryz.prog.underlying t).isSome)) = true := by kernel_rfl
  intro t ht
  have h1 := List.all_eq_true.mp h t ht
  simp only [Bool.and_eq_true, decide_eq_true_eq] at h1
  exact ⟨h1.1, h1.2.1, Option.isSome_iff_exists.mp h1.2.2⟩
theorem LookupNever_lifted (os : Os) (started : os.Started) (H : Type) (enc : TypeId × Value → H) :
    ReturnsInHanded {} Tryz.checked os 7 .any (Rows.lookupNeverSpec.pre6 enc Tryz.prog Tryz.f7 Rows.lookupNeverRow.domain false) (Rows.lookupNeverSpec.post enc Tryz.prog Tryz.f7 false true false false) := by
  refine returnsInHanded_of_change (C := Tryz.checked) LookupNever_own started (by kernel_rfl) Tryz.func7
    (ChangeSpec.witness6 (enc := enc) (C := Tryz.checked) false ⟨#[], #[.agg #[.string ⟨#[]⟩, .slice none 0 0, .slice none 0 0, .slice none 0 0, .slice none 0 0, .slice none 0 0, .slice none 0 0, .slice none 0 0, .slice none 0 0, .int .i64 0, .slice none 0 0, .slice none 0 0]], []⟩ 64 (by kernel_rfl) (by kernel_rfl) (by kernel_rfl) (by kernel_rfl)) ?_
  intro W base args ds gs before hval0 hW hcnd _
  have hval : ∀ (j : Nat) t v, Tryz.f7.params[j]? = some t → args[j]? = some v → Value.okWide Tryz.prog W .any base t v := hval0
  have hds : Rows.lookupNeverSpec.fn H ds = { results := [.lit (.bool true)], args := ds } := by
    obtain ⟨p, q, hA0, _⟩ := hW
    have hA : DataW.TrodAll enc Tryz.prog W 0 (fun _ => true) true Tryz.f7.params.toList args.toList ds p := hA0
    rw [Tryz.params7] at hA
    obtain ⟨v0, d0, _, rfl, _⟩ := trodAll_one hA
    rfl
  exact cn9 (t := 4) LookupNever_okTs LookupNever_laid LookupNever_ts rfl (by kernel_rfl) rfl hds hval hW (fun css h => LookupNever_row LookupNever_law css h)
theorem LookupNever_both {a b : Bool} (h : a = true) (k : b = true) : (a && b) = true := by rw [h, k]; rfl
theorem LookupNever_joined : joinedFacts Tryz.pinned.checked.prog 7 Tryz.f7 Rows.lookupNeverSpec Rows.lookupNeverRow = true := by
  unfold joinedFacts
  iterate 31 (refine LookupNever_both ?_ (by as_aux_lemma => kernel_rfl))
  as_aux_lemma => kernel_rfl
theorem LookupNever_holds : Rows.LookupNeverSaid :=
  OpenClaim.holds_of_wide 7 Tryz.f7 rfl rfl rfl rfl rfl rfl rfl ⟨rfl, rfl, rfl, rfl, rfl⟩ rfl rfl rfl rfl rfl (by kernel_rfl) Tryz.func7 LookupNever_joined
    (of_decide_eq_true (by kernel_rfl)) (by unfold Func.isWrapper; first | (rw [if_pos (by decide +kernel)]; kernel_rfl) | (rw [if_neg (by decide +kernel)]; exact ⟨rfl, rfl⟩))
    (fun os started H enc _ => LookupNever_lifted os started H enc)
end Go.Proofs.YthdnpgpnodgicaaGreat
