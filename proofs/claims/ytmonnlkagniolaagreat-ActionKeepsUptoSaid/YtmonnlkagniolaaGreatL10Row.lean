/-
  ActionKeeps: for every input whose values and letters are together at most 1048576, the law answers true, and each of its arguments reads behind the call as it read before. There is no further condition.
-/
import Derived.ProofKit
import Derived.Carry
import Derived.JoinedCond
import Derived.Test.YtmonnlkagniolaaGreatRows
import Derived.Test.YtmonnlkagniolaaGreatPbLaw
import Derived.Test.YtmonnlkagniolaaGreatL10Lw
import Derived.Test.YtmonnlkagniolaaGreatKPmKpKq
set_option maxRecDepth 100000
set_option maxHeartbeats 4000000
namespace Go.Proofs.YtmonnlkagniolaaGreat
open Go Go.Pb Go.ChangeShapes Go.WideShapes Go.ChangeAt Go.RowKit
theorem ActionKeeps_own : ownKnob Tryz.prog.godebug = Option.none := by kernel_rfl
theorem ActionKeeps_laid : laidOutB Tryz.prog = true := by kernel_rfl
theorem ActionKeeps_okTs : okTs Tryz.prog = true := by kernel_rfl
theorem ActionKeeps_ts : ∀ t ∈ Tryz.f10.params.toList, Tryz.prog.readableRec t = true ∧ t < Tryz.prog.types.size ∧ ∃ d, Tryz.prog.underlying t = some d := by
  have h : (Tryz.f10.params.toList.all fun t => Tryz.prog.readableRec t && (decide (t < Tryz.prog.types.size) && (Tryz.prog.underlying t).isSome)) = true := by kernel_rfl
  intro t ht
  have h1 := List.all_eq_true.mp h t ht
  simp only [Bool.and_eq_true, decide_eq_true_eq] at h1
  exact ⟨h1.1, h1.2.1, Option.isSome_iff_exists.mp h1.2.2⟩
theorem ActionKeeps_bulk {H : Type} : Bulk (H := H) Rows.uptoBulk Rows.uptoBulkAll where
  one d := by
    cases d with
    | lit l => cases l <;> simp [Rows.uptoBulk]
    | _ => simp [Rows.uptoBulk]
  ptr d := by simp [Rows.uptoBulk]
  sl a b := by simp only [Rows.uptoBulk]; omega
  agg a := by simp [Rows.uptoBulk]
  nil := by simp [Rows.uptoBulkAll]
  cons d r := by simp [Rows.uptoBulkAll]
theorem ActionKeeps_lifted (os : Os) (started : os.Started) (H : Type) (enc : TypeId × Value → H) (F : Stop.Interp) :
    ReturnsInHanded {} Tryz.checked os 10 .any ((Rows.OpenSpec.upto Rows.actionKeepsSpec).pre6 enc Tryz.prog Tryz.f10 Rows.actionKeepsUptoRow.domain false) (((Rows.OpenSpec.upto Rows.actionKeepsSpec).at F).post enc Tryz.prog Tryz.f10 false true false false) := by
  refine returnsInHanded_of_cond (C := Tryz.checked) (s := Rows.OpenSpec.upto Rows.actionKeepsSpec) (k := Rows.uptoSmall) rfl ActionKeeps_own started (by kernel_rfl) Tryz.func10
    (OpenSpec.witness (enc := enc) (C := Tryz.checked) (s := Rows.OpenSpec.upto Rows.actionKeepsSpec) (k := Rows.uptoSmall) rfl false ⟨#[], #[.agg #[.string ⟨#[]⟩, .slice none 0 0, .slice none 0 0, .slice none 0 0, .slice none 0 0, .slice none 0 0, .slice none 0 0, .slice none 0 0, .slice none 0 0, .int .i64 0, .slice none 0 0, .slice none 0 0, .slice none 0 0, .slice none 0 0, .slice none 0 0, .slice none 0 0]], []⟩ 64 (by kernel_rfl) (by kernel_rfl) (by kernel_rfl)
      (x := ([.agg [.agg [.lit (.string []), .nil, .nil, .nil, .nil, .nil, .nil, .nil, .nil], .agg [.lit (.int .i64 0), .nil], .agg [.nil, .nil, .nil, .nil], .nil]], [], [])) (by kernel_rfl) rfl (by kernel_rfl)) ?_
  intro W base args ds gs before hval0 hW _ hk _
  have hval : ∀ (j : Nat) t v, Tryz.f10.params[j]? = some t → args[j]? = some v → Value.okWide Tryz.prog W .any base t v := hval0
  have hds : Rows.actionKeepsSpec.fn H ds = { results := [.lit (.bool true)], args := ds } := by
    obtain ⟨p, q, hA0, _⟩ := hW
    have hA : DataW.TrodAll enc Tryz.prog W 0 (fun _ => true) true Tryz.f10.params.toList args.toList ds p := hA0
    rw [Tryz.params10] at hA
    obtain ⟨v0, d0, _, rfl, _⟩ := trodAll_one hA
    rfl
  exact law_trueB (t := 4) ActionKeeps_bulk ActionKeeps_okTs ActionKeeps_laid ActionKeeps_ts rfl (by kernel_rfl) rfl hds hval hW (of_decide_eq_true hk) (fun css h hw => ActionKeeps_row ActionKeeps_law css h hw)
theorem ActionKeeps_both {a b : Bool} (h : a = true) (k : b = true) : (a && b) = true := by rw [h, k]; rfl
theorem ActionKeeps_joined : joinedFacts Tryz.pinned.checked.prog 10 Tryz.f10 (Rows.OpenSpec.upto Rows.actionKeepsSpec).bare Rows.actionKeepsUptoRow = true := by
  unfold joinedFacts
  iterate 31 (refine ActionKeeps_both ?_ (by as_aux_lemma => kernel_rfl))
  as_aux_lemma => kernel_rfl
theorem ActionKeeps_holds : Rows.ActionKeepsUptoSaid :=
  OpenClaim.holds_of_cond 10 Tryz.f10 rfl rfl rfl rfl rfl rfl rfl ⟨rfl, rfl, rfl, rfl, rfl⟩ rfl rfl rfl rfl rfl (by kernel_rfl) Tryz.func10 ActionKeeps_joined
    (of_decide_eq_true (by kernel_rfl)) (by unfold Func.isWrapper; first | (rw [if_pos (by decide +kernel)]; kernel_rfl) | (rw [if_neg (by decide +kernel)]; exact ⟨rfl, rfl⟩))
    (fun os started H enc _ F => ActionKeeps_lifted os started H enc F)
end Go.Proofs.YtmonnlkagniolaaGreat
