/-
  ControlWalks: for every input the law answers true, and each of its arguments reads behind the call az0 it read before. There is no further condition.
-/
import Derived.ProofKit
import Derived.Carry
import Derived.Test.YtkgnjpoafilicaaRows
import Derived.Test.YtkgnjpoafilicaaL10Lw
import Derived.Test.YtkgnjpoafilicaaKTbLo
set_option maxRecDepth 100000
namespace Go.Proofs.Ytkgnjpoafilicaa
open Go Go.Pb Go.ChangeShapes Go.WideShapes Go.ChangeAt Go.RowKit
theorem ControlWalks_own : ownKnob Try.prog.godebug = Option.none := by kernel_rfl
theorem ControlWalks_laid : laidOutB Try.prog = true := by kernel_rfl
theorem ControlWalks_okTs : okTs Try.prog = true := by kernel_rfl
theorem ControlWalks_ts : ∀ t ∈ Try.f10.params.toList, Try.prog.readableRec t = true ∧ t < Try.prog.types.size ∧ ∃ d, Try.prog.underlying t = some d := by
  have h : (Try.f10.params.toList.all fun t => Try.prog.readableRec t && (decide (t < Try.prog.types.size) && (Try.prog.underlying t).isSome)) = true := by kernel_rfl
  intro t ht
  have h1 := List.all_eq_true.mp h t ht
  simp only [Bool.and_eq_true, decide_eq_true_eq] at h1
  exact ⟨h1.1, h1.2.1, Option.isSome_iff_exists.mp h1.2.2⟩
theorem ControlWalks_lifted (os : Os) (started : os.Started) (H : Type) (enc : TypeId × Value → H) :
    ReturnsInHanded {} Try.checked os 10 .any (Rows.controlWalksSpec.pre6 enc Try.prog Try.f10 Rows.controlWalksRow.domain false) (Rows.controlWalksSpec.post enc Try.prog Try.f10 false true false false) := by
  refine returnsInHanded_of_change (C := Try.checked) ControlWalks_own started (by kernel_rfl) Try.func10
    (ChangeSpec.witness6 (enc := enc) (C := Try.checked) false ⟨#[], #[.slice none 0 0, .slice none 0 0], []⟩ 64 (by kernel_rfl) (by kernel_rfl) (by kernel_rfl) (by kernel_rfl)) ?_
  intro W base args ds gs before hval0 hW hcnd _
  have hval : ∀ (j : Nat) t v, Try.f10.params[j]? = some t → args[j]? = some v → Value.okWide Try.prog W .any base t v := hval0
  have hds : Rows.controlWalksSpec.fn H ds = { results := [.lit (.bool true)], args := ds } := by
    obtain ⟨p, q, hA0, _⟩ := hW
    have hA : DataW.TrodAll enc Try.prog W 0 (fun _ => true) true Try.f10.params.toList args.toList ds p := hA0
    rw [Try.params10] at hA
    obtain ⟨v0, v1, d0, d1, p0, p1, _, rfl, _⟩ := trodAll_two hA
    rfl
  exact law_true (t := 4) ControlWalks_okTs ControlWalks_laid ControlWalks_ts rfl (by kernel_rfl) rfl hds hval hW (fun css h => ControlWalks_row ControlWalks_law css h)
theorem ControlWalks_holds : Rows.ControlWalksSaid :=
  OpenClaim.holds_of_wide 10 Try.f10 rfl rfl rfl rfl rfl rfl rfl ⟨rfl, rfl, rfl, rfl, rfl⟩ rfl rfl rfl rfl rfl (by kernel_rfl) Try.func10 (by kernel_rfl)
    (of_decide_eq_true (by kernel_rfl)) (by unfold Func.isWrapper; first | (rw [if_pos (by decide +kernel)]; kernel_rfl) | (rw [if_neg (by decide +kernel)]; exact ⟨rfl, rfl⟩))
    (fun os started H enc _ => ControlWalks_lifted os started H enc)
end Go.Proofs.Ytkgnjpoafilicaa
