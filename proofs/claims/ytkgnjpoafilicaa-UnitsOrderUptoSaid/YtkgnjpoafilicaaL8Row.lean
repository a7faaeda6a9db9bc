/-
  UnitsOrder: for every input whose values and letters are together at most 1048576, the law answers true, and each of its arguments reads behind the call az0 it read before. There is no further condition.
-/
import Derived.ProofKit
import Derived.Carry
import Derived.JoinedCond
import Derived.Test.YtkgnjpoafilicaaRows
import Derived.Test.YtkgnjpoafilicaaPbLaw
import Derived.Test.YtkgnjpoafilicaaL8Lw
import Derived.Test.YtkgnjpoafilicaaKUnRsPnPurePoCkUUbUo
set_option maxRecDepth 100000
set_option maxHeartbeats 4000000
namespace Go.Proofs.Ytkgnjpoafilicaa
open Go Go.Pb Go.ChangeShapes Go.WideShapes Go.ChangeAt Go.RowKit
theorem UnitsOrder_own : ownKnob Try.prog.godebug = Option.none := by kernel_rfl
theorem UnitsOrder_laid : laidOutB Try.prog = true := by kernel_rfl
theorem UnitsOrder_okTs : okTs Try.prog = true := by kernel_rfl
theorem UnitsOrder_ts : ∀ t ∈ Try.f8.params.toList, Try.prog.readableRec t = true ∧ t < Try.prog.types.size ∧ ∃ d, Try.prog.underlying t = some d := by
  have h : (Try.f8.params.toList.all fun t => Try.prog.readableRec t && (decide (t < Try.prog.types.size) && (Try.prog.underlying t).isSome)) = true := by kernel_rfl
  intro t ht
  have h1 := List.all_eq_true.mp h t ht
  simp only [Bool.and_eq_true, decide_eq_true_eq] at h1
  exact ⟨h1.1, h1.2.1, Option.isSome_iff_exists.mp h1.2.2⟩
theorem UnitsOrder_bulk {H : Type} : Bulk (H := H) Rows.uptoBulk Rows.uptoBulkAll where
  one d := by
    cases d with
    | lit l => cases l <;> simp [Rows.uptoBulk]
    | _ => simp [Rows.uptoBulk]
  ptr d := by simp [Rows.uptoBulk]
  sl a b := by simp only [Rows.uptoBulk]; omega
  agg a := by simp [Rows.uptoBulk]
  nil := by simp [Rows.uptoBulkAll]
  cons d r := by simp [Rows.uptoBulkAll]
theorem UnitsOrder_lifted (os : Os) (started : os.Started) (H : Type) (enc : TypeId × Value → H) (F : Stop.Interp) :
    ReturnsInHanded {} Try.checked os 8 .any ((Rows.OpenSpec.upto Rows.unitsOrderSpec).pre6 enc Try.prog Try.f8 Rows.unitsOrderUptoRow.domain false) (((Rows.OpenSpec.upto Rows.unitsOrderSpec).at F).post enc Try.prog Try.f8 false true false false) := by
  refine returnsInHanded_of_cond (C := Try.checked) (s := Rows.OpenSpec.upto Rows.unitsOrderSpec) (k := Rows.uptoSmall) rfl UnitsOrder_own started (by kernel_rfl) Try.func8
    (OpenSpec.witness (enc := enc) (C := Try.checked) (s := Rows.OpenSpec.upto Rows.unitsOrderSpec) (k := Rows.uptoSmall) rfl false ⟨#[], #[.agg #[.string ⟨#[]⟩, .slice none 0 0, .slice none 0 0, .slice none 0 0, .slice none 0 0, .slice none 0 0, .slice none 0 0, .slice none 0 0, .slice none 0 0]], []⟩ 64 (by kernel_rfl) (by kernel_rfl) (by kernel_rfl)
      (x := ([.agg [.lit (.string []), .nil, .nil, .nil, .nil, .nil, .nil, .nil, .nil]], [], [])) (by kernel_rfl) rfl (by kernel_rfl)) ?_
  intro W base args ds gs before hval0 hW _ hk _
  have hval : ∀ (j : Nat) t v, Try.f8.params[j]? = some t → args[j]? = some v → Value.okWide Try.prog W .any base t v := hval0
  have hds : Rows.unitsOrderSpec.fn H ds = { results := [.lit (.bool true)], args := ds } := by
    obtain ⟨p, q, hA0, _⟩ := hW
    have hA : DataW.TrodAll enc Try.prog W 0 (fun _ => true) true Try.f8.params.toList args.toList ds p := hA0
    rw [Try.params8] at hA
    obtain ⟨v0, d0, _, rfl, _⟩ := trodAll_one hA
    rfl
  exact law_trueB (t := 4) UnitsOrder_bulk UnitsOrder_okTs UnitsOrder_laid UnitsOrder_ts rfl (by kernel_rfl) rfl hds hval hW (of_decide_eq_true hk) (fun css h hw => UnitsOrder_row UnitsOrder_law css h hw)
theorem UnitsOrder_both {a b : Bool} (h : a = true) (k : b = true) : (a && b) = true := by rw [h, k]; rfl
theorem UnitsOrder_joined : joinedFacts Try.pinned.checked.prog 8 Try.f8 (Rows.OpenSpec.upto Rows.unitsOrderSpec).bare Rows.unitsOrderUptoRow = true := by
  unfold joinedFacts
  iterate 31 (refine UnitsOrder_both ?_ (by as_aux_lemma => kernel_rfl))
  as_aux_lemma => kernel_rfl
theorem UnitsOrder_holds : Rows.UnitsOrderUptoSaid :=
  OpenClaim.holds_of_cond 8 Try.f8 rfl rfl rfl rfl rfl rfl rfl ⟨rfl, rfl, rfl, rfl, rfl⟩ rfl rfl rfl rfl rfl (by kernel_rfl) Try.func8 UnitsOrder_joined
    (of_decide_eq_true (by kernel_rfl)) (by unfold Func.isWrapper; first | (rw [if_pos (by decide +kernel)]; kernel_rfl) | (rw [if_neg (by decide +kernel)]; exact ⟨rfl, rfl⟩))
    (fun os started H enc _ F => UnitsOrder_lifted os started H enc F)
end Go.Proofs.Ytkgnjpoafilicaa
