/-
  LookupComplete: for every input the law answers true, and each of its arguments reads behind the call as it read before. There is no further condition.
-/
import Derived.ProofKit
import Derived.Carry
import Derived.Test.YthdnpgpnodgicaaGreatRows
import Derived.Test.YthdnpgpnodgicaaGreatL8Lw
import Derived.Test.YthdnpgpnodgicaaGreatKScSdSe
set_option maxRecDepth 100000
set_option maxHeartbeats 4000000
namespace Go.Proofs.YthdnpgpnodgicaaGreat
open Go Go.Pb Go.ChangeShapes Go.WideShapes Go.ChangeAt Go.RowKit
theorem LookupComplete_own : ownKnob Tryz.prog.godebug = Option.none := by kernel_rfl
theorem LookupComplete_laid : laidOutB Tryz.prog = true := by kernel_rfl
theorem LookupComplete_okTs : okTs Tryz.prog = true := by kernel_rfl
theorem LookupComplete_ts : ∀ t ∈ Tryz.f8.params.toList, Tryz.prog.readableRec t = true ∧ t < Tryz.prog.types.size ∧ ∃ d, Tryz.prog.underlying t = some d := by
  have h : (Tryz.f8.params.toList.all fun t => Tryz.prog.readableRec t && (decide (t < Tryz.prog.types.size) && (Tryz.prog.underlying t).isSome)) = true := by kernel_rfl
  intro t ht
  have h1 := List.all_eq_true.mp h t ht
  simp only [Bool.and_eq_true, decide_eq_true_eq] at h1
  exact ⟨h1.1, h1.2.1, Option.isSome_iff_exists.mp h1.2.2⟩
theorem LookupComplete_lifted (os : Os) (started : os.Started) (H : Type) (enc : TypeId × Value → H) :
    ReturnsInHanded {} Tryz.checked os 8 .any (Rows.lookupCompleteSpec.pre6 enc Tryz.prog Tryz.f8 Rows.lookupCompleteRow.domain false) (Rows.lookupCompleteSpec.post enc Tryz.prog Tryz.f8 false true false false) := by
  refine returnsInHanded_of_change (C := Tryz.checked) LookupComplete_own started (by kernel_rfl) Tryz.func8
    (ChangeSpec.witness6 (enc := enc) (C := Tryz.checked) false ⟨#[], #[.agg #[.string ⟨#[]⟩, .slice none 0 0, .slice none 0 0, .slice none 0 0, .slice none 0 0, .slice none 0 0, .slice none 0 0, .slice none 0 0, .slice none 0 0, .int .i64 0, .slice none 0 0, .slice none 0 0]], []⟩ 64 (by kernel_rfl) (by kernel_rfl) (by kernel_rfl) (by kernel_rfl)) ?_
  intro W base args ds gs before hval0 hW hcnd _
  have hval : ∀ (j : Nat) t v, Tryz.f8.params[j]? = some t → args[j]? = some v → Value.okWide Tryz.prog W .any base t v := hval0
  have hds : Rows.lookupCompleteSpec.fn H ds = { results := [.lit (.bool true)], args := ds } := by
    obtain ⟨p, q, hA0, _⟩ := hW
    have hA : DataW.TrodAll enc Tryz.prog W 0 (fun _ => true) true Tryz.f8.params.toList args.toList ds p := hA0
    rw [Tryz.params8] at hA
    obtain ⟨v0, d0, _, rfl, _⟩ := trodAll_one hA
    rfl
  exact bz5 (t := 4) LookupComplete_okTs LookupComplete_laid LookupComplete_ts rfl (by kernel_rfl) rfl hds hval hW (fun css h => LookupComplete_row LookupComplete_law css h)
theorem LookupComplete_both {a b : Bool} (h : a = true) (k : b = true) : (a && b) = true := by rw [h, k]; rfl
theorem LookupComplete_joined : joinedFacts Tryz.pinned.checked.prog 8 Tryz.f8 Rows.lookupCompleteSpec Rows.lookupCompleteRow = true := by
  unfold joinedFacts
  iterate 31 (refine LookupComplete_both ?_ (by as_aux_lemma => kernel_rfl))
  as_aux_lemma => kernel_rfl
theorem LookupComplete_holds : Rows.LookupCompleteSaid :=
  OpenClaim.holds_of_wide 8 Tryz.f8 rfl rfl rfl rfl rfl rfl rfl ⟨rfl, rfl, rfl, rfl, rfl⟩ rfl rfl rfl rfl rfl (by kernel_rfl) Tryz.func8 LookupComplete_joined
    (of_decide_eq_true (by kernel_rfl)) (by unfold Func.isWrapper; first | (rw [if_pos (by decide +kernel)]; kernel_rfl) | (rw [if_neg (by decide +kernel)]; exact ⟨rfl, rfl⟩))
    (fun os started H enc _ => LookupComplete_lifted os started H enc)
end Go.Proofs.YthdnpgpnodgicaaGreat
