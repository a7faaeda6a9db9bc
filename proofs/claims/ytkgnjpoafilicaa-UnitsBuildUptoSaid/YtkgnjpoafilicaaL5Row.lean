/-
  UnitsBuild: for every input whose values and letters are together at most 1048576, the law answers true, and each of its arguments reads behind the call az0 it read before. There is no further condition.
-/
import Derived.ProofKit
import Derived.Carry
import Derived.JoinedCond
import Derived.Test.YtkgnjpoafilicaaRows
import Derived.Test.YtkgnjpoafilicaaPbLaw
import Derived.Test.YtkgnjpoafilicaaL5Lw
import Derived.Test.YtkgnjpoafilicaaKUnRsPnPurePoCkUUb
set_option maxRecDepth 100000
set_option maxHeartbeats 4000000
namespace Go.Proofs.Ytkgnjpoafilicaa
open Go Go.Pb Go.ChangeShapes Go.WideShapes Go.ChangeAt Go.RowKit
theorem UnitsBuild_own : ownKnob Try.prog.godebug = Option.none := by kernel_rfl
theorem UnitsBuild_laid : laidOutB Try.prog = true := by kernel_rfl
theorem UnitsBuild_okTs : okTs Try.prog = true := by kernel_rfl
theorem UnitsBuild_ts : ∀ t ∈ Try.f5.params.toList, Try.prog.readableRec t = true ∧ t < Try.prog.types.size ∧ ∃ d, Try.prog.underlying t = some d := by
  have h : (Try.f5.params.toList.all fun t => Try.prog.readableRec t && (decide (t < Try.prog.types.size) && (Try.prog.underlying t).isSome)) = true := by kernel_rfl
  intro t ht
  have h1 := List.all_eq_true.mp h t ht
  simp only [Bool.and_eq_true, decide_eq_true_eq] at h1
  exact ⟨h1.1, h1.2.1, Option.isSome_iff_exists.mp h1.2.2⟩
theorem UnitsBuild_bulk {H : Type} : Bulk (H := H) Rows.uptoBulk Rows.uptoBulkAll where
  one d := by
    cases d with
    | lit l => cases l <;> simp [Rows.uptoBulk]
    | _ => simp [Rows.uptoBulk]
  ptr d := by simp [Rows.uptoBulk]
  sl a b := by simp only [Rows.uptoBulk]; omega
  agg a := by simp [Rows.uptoBulk]
  nil := by simp [Rows.uptoBulkAll]
  cons d r := by simp [Rows.uptoBulkAll]
theorem UnitsBuild_lifted (os : Os) (started : os.Started) (H : Type) (enc : TypeId × Value → H) (F : Stop.Interp) :
    ReturnsInHanded {} Try.checked os 5 .any ((Rows.OpenSpec.upto Rows.unitsBuildSpec).pre6 enc Try.prog Try.f5 Rows.unitsBuildUptoRow.domain false) (((Rows.OpenSpec.upto Rows.unitsBuildSpec).at F).post enc Try.prog Try.f5 false true false false) := by
  refine returnsInHanded_of_cond (C := Try.checked) (s := Rows.OpenSpec.upto Rows.unitsBuildSpec) (k := Rows.uptoSmall) rfl UnitsBuild_own started (by kernel_rfl) Try.func5
    (OpenSpec.witness (enc := enc) (C := Try.checked) (s := Rows.OpenSpec.upto Rows.unitsBuildSpec) (k := Rows.uptoSmall) rfl false ⟨#[], #[.agg #[.string ⟨#[]⟩, .slice none 0 0, .slice none 0 0, .slice none 0 0, .slice none 0 0, .slice none 0 0, .slice none 0 0, .slice none 0 0, .slice none 0 0]], []⟩ 64 (by kernel_rfl) (by kernel_rfl) (by kernel_rfl)
      (x := ([.agg [.lit (.string []), .nil, .nil, .nil, .nil, .nil, .nil, .nil, .nil]], [], [])) (by kernel_rfl) rfl (by kernel_rfl)) ?_
  intro W base args ds gs before hval0 hW _ hk _
  have hval : ∀ (j : Nat) t v, Try.f5.params[j]? = some t → args[j]? = some v → Value.okWide Try.prog W .any base t v := hval0
  have hds : Rows.unitsBuildSpec.fn H ds = { results := [.lit (.bool true)], args := ds } := by
    obtain ⟨p, q, hA0, _⟩ := hW
    have hA : DataW.TrodAll enc Try.prog W 0 (fun _ => true) true Try.f5.params.toList args.toList ds p := hA0
    rw [Try.params5] at hA
    obtain ⟨v0, d0, _, rfl, _⟩ := trodAll_one hA
    rfl
  exact law_trueB (t := 4) UnitsBuild_bulk UnitsBuild_okTs UnitsBuild_laid UnitsBuild_ts rfl (by kernel_rfl) rfl hds hval hW (of_decide_eq_true hk) (fun css h hw => UnitsBuild_row UnitsBuild_law css h hw)
theorem UnitsBuild_both {a b : Bool} (h : a = true) (k : b = true) : (a && b) = true := by rw [h, k]; rfl
theorem UnitsBuild_joined : joinedFacts Try.pinned.checked.prog 5 Try.f5 (Rows.OpenSpec.upto Rows.unitsBuildSpec).bare Rows.unitsBuildUptoRow = true := by
  unfold joinedFacts
  iterate 31 (refine UnitsBuild_both ?_ (by as_aux_lemma => kernel_rfl))
  as_aux_lemma => kernel_rfl
theorem UnitsBuild_holds : Rows.UnitsBuildUptoSaid :=
  OpenClaim.holds_of_cond 5 Try.f5 rfl rfl rfl rfl rfl rfl rfl ⟨rfl, rfl, rfl, rfl, rfl⟩ rfl rfl rfl rfl rfl (by kernel_rfl) Try.func5 UnitsBuild_joined
    (of_decide_eq_true (by kernel_rfl)) (by unfold Func.isWrapper; first | (rw [if_pos (by decide +kernel)]; kernel_rfl) | (rw [if_neg (by decide +kernel)]; exact ⟨rfl, rfl⟩))
    (fun os started H enc _ F => UnitsBuild_lifted os started H enc F)
end Go.Proofs.Ytkgnjpoafilicaa
