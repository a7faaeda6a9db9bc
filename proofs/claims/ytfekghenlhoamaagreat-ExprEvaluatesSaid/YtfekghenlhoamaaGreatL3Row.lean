/-
  ExprEvaluates: for every input the law answers true, and each of its arguments reads behind the call as it read before. There is no further condition.
-/
import Derived.ProofKit
import Derived.Carry
import Derived.Test.YtfekghenlhoamaaGreatRows
import Derived.Test.YtfekghenlhoamaaGreatL3Lw
import Derived.Test.YtfekghenlhoamaaGreatKLaw
set_option maxRecDepth 100000
namespace Go.Proofs.YtfekghenlhoamaaGreat
open Go Go.Pb Go.ChangeShapes Go.WideShapes Go.ChangeAt Go.RowKit
theorem ExprEvaluates_own : ownKnob Tryz.prog.godebug = Option.none := by kernel_rfl
theorem ExprEvaluates_laid : laidOutB Tryz.prog = true := by kernel_rfl
theorem ExprEvaluates_okTs : okTs Tryz.prog = true := by kernel_rfl
theorem ExprEvaluates_ts : ∀ t ∈ Tryz.f3.params.toList, Tryz.prog.readableRec t = true ∧ t < Tryz.prog.types.size ∧ ∃ d, Tryz.prog.underlying t = some d := by
  have h : (Tryz.f3.params.toList.all fun t => Tryz.prog.readableRec t && (decide (t < Tryz.prog.types.size) && (Tryz.prog.underlying t).isSome)) = true := by kernel_rfl
  intro t ht
  have h1 := List.all_eq_true.mp h t ht
  simp only [Bool.and_eq_true, decide_eq_true_eq] at h1
  exact ⟨h1.1, h1.2.1, Option.isSome_iff_exists.mp h1.2.2⟩
theorem ExprEvaluates_lifted (os : Os) (started : os.Started) (H : Type) (enc : TypeId × Value → H) :
    ReturnsInHanded {} Tryz.checked os 3 .any (Rows.exprEvaluatesSpec.pre6 enc Tryz.prog Tryz.f3 Rows.exprEvaluatesRow.domain false) (Rows.exprEvaluatesSpec.post enc Tryz.prog Tryz.f3 false true false false) := by
  refine returnsInHanded_of_change (C := Tryz.checked) ExprEvaluates_own started (by kernel_rfl) Tryz.func3
    (ChangeSpec.witness6 (enc := enc) (C := Tryz.checked) false ⟨#[], #[.agg #[.string ⟨#[]⟩, .slice none 0 0, .slice none 0 0, .slice none 0 0, .slice none 0 0, .slice none 0 0, .slice none 0 0, .slice none 0 0, .slice none 0 0, .slice none 0 0, .slice none 0 0, .slice none 0 0, .slice none 0 0, .slice none 0 0, .slice none 0 0, .slice none 0 0]], []⟩ 64 (by kernel_rfl) (by kernel_rfl) (by kernel_rfl) (by kernel_rfl)) ?_
  intro W base args ds gs before hval0 hW hcnd _
  have hval : ∀ (j : Nat) t v, Tryz.f3.params[j]? = some t → args[j]? = some v → Value.okWide Tryz.prog W .any base t v := hval0
  have hds : Rows.exprEvaluatesSpec.fn H ds = { results := [.lit (.bool true)], args := ds } := by
    obtain ⟨p, q, hA0, _⟩ := hW
    have hA : DataW.TrodAll enc Tryz.prog W 0 (fun _ => true) true Tryz.f3.params.toList args.toList ds p := hA0
    rw [Tryz.params3] at hA
    obtain ⟨v0, d0, _, rfl, _⟩ := trodAll_one hA
    rfl
  exact law_true (t := 4) ExprEvaluates_okTs ExprEvaluates_laid ExprEvaluates_ts rfl (by kernel_rfl) rfl hds hval hW (fun css h => ExprEvaluates_row ExprEvaluates_law css h)
theorem ExprEvaluates_holds : Rows.ExprEvaluatesSaid :=
  OpenClaim.holds_of_wide 3 Tryz.f3 rfl rfl rfl rfl rfl rfl rfl ⟨rfl, rfl, rfl, rfl, rfl⟩ rfl rfl rfl rfl rfl (by kernel_rfl) Tryz.func3 (by kernel_rfl)
    (of_decide_eq_true (by kernel_rfl)) (by unfold Func.isWrapper; first | (rw [if_pos (by decide +kernel)]; kernel_rfl) | (rw [if_neg (by decide +kernel)]; exact ⟨rfl, rfl⟩))
    (fun os started H enc _ => ExprEvaluates_lifted os started H enc)
end Go.Proofs.YtfekghenlhoamaaGreat
