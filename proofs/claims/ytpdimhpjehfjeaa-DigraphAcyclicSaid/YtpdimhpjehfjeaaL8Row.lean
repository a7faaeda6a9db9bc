/-
  DigraphAcyclic: for every input the law answers true, and each of its arguments reads behind the call as it read before. There is no further condition.
-/
import Derived.ProofKit
import Derived.Carry
import Derived.Test.YtpdimhpjehfjeaaRows
import Derived.Test.YtpdimhpjehfjeaaL8Lw
import Derived.Test.YtpdimhpjehfjeaaKUuRsLvTwLaLpLoLsLrLiLj
set_option maxRecDepth 100000
set_option maxHeartbeats 4000000
namespace Go.Proofs.Ytpdimhpjehfjeaa
open Go Go.Pb Go.ChangeShapes Go.WideShapes Go.ChangeAt Go.RowKit
theorem DigraphAcyclic_own : ownKnob Try.prog.godebug = Option.none := by kernel_rfl
theorem DigraphAcyclic_laid : laidOutB Try.prog = true := by kernel_rfl
theorem DigraphAcyclic_okTs : okTs Try.prog = true := by kernel_rfl
theorem DigraphAcyclic_ts : ∀ t ∈ Try.f8.params.toList, Try.prog.readableRec t = true ∧ t < Try.prog.types.size ∧ ∃ d, Try.prog.underlying t = some d := by
  have h : (Try.f8.params.toList.all fun t => Try.prog.readableRec t && (decide (t < Try.prog.types.size) && (Try.prog.underlying t).isSome)) = true := by kernel_rfl
  intro t ht
  have h1 := List.all_eq_true.mp h t ht
  simp only [Bool.and_eq_true, decide_eq_true_eq] at h1
  exact ⟨h1.1, h1.2.1, Option.isSome_iff_exists.mp h1.2.2⟩
theorem DigraphAcyclic_lifted (os : Os) (started : os.Started) (H : Type) (enc : TypeId × Value → H) :
    ReturnsInHanded {} Try.checked os 8 .any (Rows.digraphAcyclicSpec.pre6 enc Try.prog Try.f8 Rows.digraphAcyclicRow.domain false) (Rows.digraphAcyclicSpec.post enc Try.prog Try.f8 false true false false) := by
  refine returnsInHanded_of_change (C := Try.checked) DigraphAcyclic_own started (by kernel_rfl) Try.func8
    (ChangeSpec.witness6 (enc := enc) (C := Try.checked) false ⟨#[], #[.slice none 0 0], []⟩ 64 (by kernel_rfl) (by kernel_rfl) (by kernel_rfl) (by kernel_rfl)) ?_
  intro W base args ds gs before hval0 hW hcnd _
  have hval : ∀ (j : Nat) t v, Try.f8.params[j]? = some t → args[j]? = some v → Value.okWide Try.prog W .any base t v := hval0
  have hds : Rows.digraphAcyclicSpec.fn H ds = { results := [.lit (.bool true)], args := ds } := by
    obtain ⟨p, q, hA0, _⟩ := hW
    have hA : DataW.TrodAll enc Try.prog W 0 (fun _ => true) true Try.f8.params.toList args.toList ds p := hA0
    rw [Try.params8] at hA
    obtain ⟨v0, d0, _, rfl, _⟩ := trodAll_one hA
    rfl
  exact law_true (t := 4) DigraphAcyclic_okTs DigraphAcyclic_laid DigraphAcyclic_ts rfl (by kernel_rfl) rfl hds hval hW (fun css h => DigraphAcyclic_row DigraphAcyclic_law css h)
theorem DigraphAcyclic_both {a b : Bool} (h : a = true) (k : b = true) : (a && b) = true := by rw [h, k]; rfl
theorem DigraphAcyclic_joined : joinedFacts Try.pinned.checked.prog 8 Try.f8 Rows.digraphAcyclicSpec Rows.digraphAcyclicRow = true := by
  unfold joinedFacts
  iterate 31 (refine DigraphAcyclic_both ?_ (by as_aux_lemma => kernel_rfl))
  as_aux_lemma => kernel_rfl
theorem DigraphAcyclic_holds : Rows.DigraphAcyclicSaid :=
  OpenClaim.holds_of_wide 8 Try.f8 rfl rfl rfl rfl rfl rfl rfl ⟨rfl, rfl, rfl, rfl, rfl⟩ rfl rfl rfl rfl rfl (by kernel_rfl) Try.func8 DigraphAcyclic_joined
    (of_decide_eq_true (by kernel_rfl)) (by unfold Func.isWrapper; first | (rw [if_pos (by decide +kernel)]; kernel_rfl) | (rw [if_neg (by decide +kernel)]; exact ⟨rfl, rfl⟩))
    (fun os started H enc _ => DigraphAcyclic_lifted os started H enc)
end Go.Proofs.Ytpdimhpjehfjeaa
