/-
  UnitsWalk: for every input whose values and letters are together at most 1048576, the law answers true, and each of its arguments reads behind the call az0 it read before. There is no further condition.
-/
import Derived.ProofKit
import Derived.Carry
import Derived.JoinedCond
import Derived.Test.YtkgnjpoafilicaaRows
import Derived.Test.YtkgnjpoafilicaaPbLaw
import Derived.Test.YtkgnjpoafilicaaL9Lw
import Derived.Test.YtkgnjpoafilicaaKUnRsPnPurePoCkUUbUw
set_option maxRecDepth 100000
set_option maxHeartbeats 4000000
namespace Go.Proofs.Ytkgnjpoafilicaa
open Go Go.Pb Go.ChangeShapes Go.WideShapes Go.ChangeAt Go.RowKit
theorem UnitsWalk_own : ownKnob Try.prog.godebug = Option.none := by kernel_rfl
theorem UnitsWalk_laid : laidOutB Try.prog = true := by kernel_rfl
theorem UnitsWalk_okTs : okTs Try.prog = true := by kernel_rfl
theorem UnitsWalk_ts : ∀ t ∈ Try.f9.params.toList, Try.prog.readableRec t = true ∧ t < Try.prog.types.size ∧ ∃ d, Try.prog.underlying t = some d := by
  have h : (Try.f9.params.toList.all fun t => Try.prog.readableRec t && (decide (t < Try.prog.types.size) && (Try.prog.underlying t).isSome)) = true := by kernel_rfl
  intro t ht
  have h1 := List.all_eq_true.mp h t ht
  simp only [Bool.and_eq_true, decide_eq_true_eq] at h1
  exact ⟨h1.1, h1.2.1, Option.isSome_iff_exists.mp h1.2.2⟩
theorem UnitsWalk_bulk {H : Type} : Bulk (H := H) Rows.uptoBulk Rows.uptoBulkAll where
  one d := by
    cases d with
    | lit l => cases l <;> simp [Rows.uptoBulk]
    | _ => simp [Rows.uptoBulk]
  ptr d := by simp [Rows.uptoBulk]
  sl a b := by simp only [Rows.uptoBulk]; omega
  agg a := by simp [Rows.uptoBulk]
  nil := by simp [Rows.uptoBulkAll]
  cons d r := by simp [Rows.uptoBulkAll]
theorem UnitsWalk_lifted (os : Os) (started : os.Started) (H : Type) (enc : TypeId × Value → H) (F : Stop.Interp) :
    ReturnsInHanded {} Try.checked os 9 .any ((Rows.OpenSpec.upto Rows.unitsWalkSpec).pre6 enc Try.prog Try.f9 Rows.unitsWalkUptoRow.domain false) (((Rows.OpenSpec.upto Rows.unitsWalkSpec).at F).post enc Try.prog Try.f9 false true false false) := by
  refine returnsInHanded_of_cond (C := Try.checked) (s := Rows.OpenSpec.upto Rows.unitsWalkSpec) (k := Rows.uptoSmall) rfl UnitsWalk_own started (by kernel_rfl) Try.func9
    (OpenSpec.witness (enc := enc) (C := Try.checked) (s := Rows.OpenSpec.upto Rows.unitsWalkSpec) (k := Rows.uptoSmall) rfl false ⟨#[], #[.agg #[.string ⟨#[]⟩, .slice none 0 0, .slice none 0 0, .slice none 0 0, .slice none 0 0, .slice none 0 0, .slice none 0 0, .slice none 0 0, .slice none 0 0], .slice none 0 0], []⟩ 64 (by kernel_rfl) (by kernel_rfl) (by kernel_rfl)
      (x := ([.agg [.lit (.string []), .nil, .nil, .nil, .nil, .nil, .nil, .nil, .nil], .nil], [], [])) (by kernel_rfl) rfl (by kernel_rfl)) ?_
  intro W base args ds gs before hval0 hW _ hk _
  have hval : ∀ (j : Nat) t v, Try.f9.params[j]? = some t → args[j]? = some v → Value.okWide Try.prog W .any base t v := hval0
  have hds : Rows.unitsWalkSpec.fn H ds = { results := [.lit (.bool true)], args := ds } := by
    obtain ⟨p, q, hA0, _⟩ := hW
    have hA : DataW.TrodAll enc Try.prog W 0 (fun _ => true) true Try.f9.params.toList args.toList ds p := hA0
    rw [Try.params9] at hA
    obtain ⟨v0, v1, d0, d1, p0, p1, _, rfl, _⟩ := trodAll_two hA
    rfl
  exact law_trueB (t := 4) UnitsWalk_bulk UnitsWalk_okTs UnitsWalk_laid UnitsWalk_ts rfl (by kernel_rfl) rfl hds hval hW (of_decide_eq_true hk) (fun css h hw => UnitsWalk_row UnitsWalk_law css h hw)
theorem UnitsWalk_both {a b : Bool} (h : a = true) (k : b = true) : (a && b) = true := by rw [h, k]; rfl
theorem UnitsWalk_joined : joinedFacts Try.pinned.checked.prog 9 Try.f9 (Rows.OpenSpec.upto Rows.unitsWalkSpec).bare Rows.unitsWalkUptoRow = true := by
  unfold joinedFacts
  iterate 31 (refine UnitsWalk_both ?_ (by as_aux_lemma => kernel_rfl))
  as_aux_lemma => kernel_rfl
theorem UnitsWalk_holds : Rows.UnitsWalkUptoSaid :=
  OpenClaim.holds_of_cond 9 Try.f9 rfl rfl rfl rfl rfl rfl rfl ⟨rfl, rfl, rfl, rfl, rfl⟩ rfl rfl rfl rfl rfl (by kernel_rfl) Try.func9 UnitsWalk_joined
    (of_decide_eq_true (by kernel_rfl)) (by unfold Func.isWrapper; first | (rw [if_pos (by decide +kernel)]; kernel_rfl) | (rw [if_neg (by decide +kernel)]; exact ⟨rfl, rfl⟩))
    (fun os started H enc _ F => UnitsWalk_lifted os started H enc F)
end Go.Proofs.Ytkgnjpoafilicaa
