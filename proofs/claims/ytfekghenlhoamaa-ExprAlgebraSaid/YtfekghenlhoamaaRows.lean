/-
  NARROWER THAN 'FOR EVERY INPUT', by the rows' own cells (each row's printed sentence says how): ExprReplaces: loops · ExprAlgebra: loops · ExprFits: loops.
  DERIVED. THE GIVEN ROWS OF THIS SEAT. 3 by the template 'for every input the law returns true; each argument reads behind the call as it read before'; 0 by the template 'total and deterministic' (their statements: YtfekghenlhoamaaTotals.lean).
  GIVEN WITH THE SEED: the statements are not yours to turn. If you find one false, say at which input.
  Laid BY PROGRAM, IN A SANDBOX (cutbox-rows.mjs): the forced cells as the released guide's own fill.sh prints them over the translation 69d6ff45e42c05d2… (all of the seat's roots in one cut). By AI agents, Wed Nov 11 2026. No macro, syntax, notation, axiom, sorry.
-/
import Derived.Test.YtfekghenlhoamaaChecked
import GoSem.Claim
import GoSem.ClaimJoined
import GoSem.ClaimMapViews
import Derived.JoinedTies
import Derived.KernelRfl
namespace Go.Proofs.Ytfekghenlhoamaa
/- THE CELL 'sum', in the pinned program and in every row, IS THE sha256 OF THE DUMP (.gsa) THAT YtfekghenlhoamaaProg.lean LOADS. Nothing in Lean hashes anything: it is a label: what it is worth is what the hold of that sum in a sandbox is worth. -/
noncomputable def Try.pinned : Pinned := { name := "ytfekghenlhoamaa", sum := "69d6ff45e42c05d24f7124890feb3d78922e11dbd88043e62a0f126bf4a551e5", checked := Try.checked }
namespace Rows
def none {H : Type} : Left H := { results := [], args := [] }

/-- 'patchbaylaw13.ExprReplaces': WHATEVER THE INPUT: true; the input reads as it did. -/
def exprReplacesSpec : ChangeSpec := { name := "exprReplaces", fn := fun _ => fun
  | [d1, d2] => { results := [.lit (.bool true)], args := [d1, d2] }
  | _ => none }
def exprReplacesRow : OpenClaim := { program := "ytfekghenlhoamaa", sum := "69d6ff45e42c05d24f7124890feb3d78922e11dbd88043e62a0f126bf4a551e5", func := "patchbay/patchbaylaw13.ExprReplaces", spec := "exprReplaces", unfollowed := true, recurses := true, loops := true, apart := false }
def ExprReplacesSaid : Prop := exprReplacesRow.holds Try.pinned (OpenSpec.ofChange exprReplacesSpec)

/-- ITS FALSE NEIGHBOUR: 'it returns false'. Refute it at one input. -/
def exprReplacesWrong : ChangeSpec := { name := "exprReplaces", fn := fun _ => fun
  | [d1, d2] => { results := [.lit (.bool false)], args := [d1, d2] }
  | _ => none }
def ExprReplacesWrongFalsely : Prop := exprReplacesRow.holds Try.pinned (OpenSpec.ofChange exprReplacesWrong)

/-- 'patchbaylaw13.ExprAlgebra': WHATEVER THE INPUT: true; the input reads as it did. -/
def exprAlgebraSpec : ChangeSpec := { name := "exprAlgebra", fn := fun _ => fun
  | [d1, d2] => { results := [.lit (.bool true)], args := [d1, d2] }
  | _ => none }
def exprAlgebraRow : OpenClaim := { program := "ytfekghenlhoamaa", sum := "69d6ff45e42c05d24f7124890feb3d78922e11dbd88043e62a0f126bf4a551e5", func := "patchbay/patchbaylaw13.ExprAlgebra", spec := "exprAlgebra", unfollowed := true, recurses := true, loops := true, apart := false }
def ExprAlgebraSaid : Prop := exprAlgebraRow.holds Try.pinned (OpenSpec.ofChange exprAlgebraSpec)

/-- ITS FALSE NEIGHBOUR: 'it returns false'. Refute it at one input. -/
def exprAlgebraWrong : ChangeSpec := { name := "exprAlgebra", fn := fun _ => fun
  | [d1, d2] => { results := [.lit (.bool false)], args := [d1, d2] }
  | _ => none }
def ExprAlgebraWrongFalsely : Prop := exprAlgebraRow.holds Try.pinned (OpenSpec.ofChange exprAlgebraWrong)

/-- 'patchbaylaw13.ExprFits': WHATEVER THE INPUT: true; the input reads as it did. -/
def exprFitsSpec : ChangeSpec := { name := "exprFits", fn := fun _ => fun
  | [d] => { results := [.lit (.bool true)], args := [d] }
  | _ => none }
def exprFitsRow : OpenClaim := { program := "ytfekghenlhoamaa", sum := "69d6ff45e42c05d24f7124890feb3d78922e11dbd88043e62a0f126bf4a551e5", func := "patchbay/patchbaylaw13.ExprFits", spec := "exprFits", unfollowed := true, recurses := true, loops := true, apart := false }
def ExprFitsSaid : Prop := exprFitsRow.holds Try.pinned (OpenSpec.ofChange exprFitsSpec)

/-- ITS FALSE NEIGHBOUR: 'it returns false'. Refute it at one input. -/
def exprFitsWrong : ChangeSpec := { name := "exprFits", fn := fun _ => fun
  | [d] => { results := [.lit (.bool false)], args := [d] }
  | _ => none }
def ExprFitsWrongFalsely : Prop := exprFitsRow.holds Try.pinned (OpenSpec.ofChange exprFitsWrong)

/- THE SECOND FORM. 'bulk': how many values and letters a reading holds, each counted each time it is reached (what is shared counts as often as it is met; a slice's spare places count too). A statement '..UptoSaid' is the law's where the arguments, and the package variables that the reading takes, are together of bulk at most 1048576: NARROWER than '..Said'. Prove '..Said' where nothing that the law and all that it calls make is longer than what came in: it says more and counts as full. Else prove '..UptoSaid'. A law counts once. -/
mutual
def uptoBulk {H : Type} : DataW H → Nat
  | .lit (.string bytes) => bytes.length + 1
  | .lit _ => 1
  | .nil => 1
  | .ptr d => uptoBulk d + 1
  | .slice elems spare => uptoBulkAll elems + uptoBulkAll spare + 1
  | .agg parts => uptoBulkAll parts + 1
  | .iface _ d => uptoBulk d + 1
  | .map entries => uptoBulkEntries entries + 1
  | .held _ => 1
def uptoBulkAll {H : Type} : List (DataW H) → Nat
  | [] => 0
  | d :: r => uptoBulk d + uptoBulkAll r
def uptoBulkEntries {H : Type} : List (Lit × DataW H) → Nat
  | [] => 0
  | x :: r => uptoBulkEntry x + uptoBulkEntries r
def uptoBulkEntry {H : Type} : Lit × DataW H → Nat
  | (.string bytes, d) => bytes.length + uptoBulk d + 1
  | (_, d) => uptoBulk d + 1
 end
def uptoSmall : (H : Type) → List (DataW H) → Bool := fun _ ds => decide (uptoBulkAll ds ≤ 1048576)
def OpenSpec.upto (s : _root_.Go.ChangeSpec) : _root_.Go.OpenSpec := { _root_.Go.OpenSpec.ofChange s with cond := some uptoSmall }

/-- 'patchbaylaw13.ExprReplaces', WHERE WHAT IT READS IS OF BULK AT MOST 1048576: true; the input reads as it did. -/
def exprReplacesUptoRow : OpenClaim := { program := "ytfekghenlhoamaa", sum := "69d6ff45e42c05d24f7124890feb3d78922e11dbd88043e62a0f126bf4a551e5", func := "patchbay/patchbaylaw13.ExprReplaces", spec := "exprReplaces", unfollowed := true, recurses := true, loops := true, apart := false, narrowed := true }
def ExprReplacesUptoSaid : Prop := exprReplacesUptoRow.holds Try.pinned (OpenSpec.upto exprReplacesSpec)

/-- 'patchbaylaw13.ExprAlgebra', WHERE WHAT IT READS IS OF BULK AT MOST 1048576: true; the input reads as it did. -/
def exprAlgebraUptoRow : OpenClaim := { program := "ytfekghenlhoamaa", sum := "69d6ff45e42c05d24f7124890feb3d78922e11dbd88043e62a0f126bf4a551e5", func := "patchbay/patchbaylaw13.ExprAlgebra", spec := "exprAlgebra", unfollowed := true, recurses := true, loops := true, apart := false, narrowed := true }
def ExprAlgebraUptoSaid : Prop := exprAlgebraUptoRow.holds Try.pinned (OpenSpec.upto exprAlgebraSpec)

/-- 'patchbaylaw13.ExprFits', WHERE WHAT IT READS IS OF BULK AT MOST 1048576: true; the input reads as it did. -/
def exprFitsUptoRow : OpenClaim := { program := "ytfekghenlhoamaa", sum := "69d6ff45e42c05d24f7124890feb3d78922e11dbd88043e62a0f126bf4a551e5", func := "patchbay/patchbaylaw13.ExprFits", spec := "exprFits", unfollowed := true, recurses := true, loops := true, apart := false, narrowed := true }
def ExprFitsUptoSaid : Prop := exprFitsUptoRow.holds Try.pinned (OpenSpec.upto exprFitsSpec)

end Rows
end Go.Proofs.Ytfekghenlhoamaa
