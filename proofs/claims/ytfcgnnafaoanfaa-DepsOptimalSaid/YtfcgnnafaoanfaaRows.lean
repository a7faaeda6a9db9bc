/-
  No cell of these rows narrows 'for every input' (looked for: loops, veiled, ifaces, maps, wideKeys, modest, calm, conditions, laid).
  DERIVED. THE GIVEN ROWS OF THIS SEAT. 3 by the template 'for every input the law returns true; each argument reads behind the call as it read before'; 0 by the template 'total and deterministic' (their statements: YtfcgnnafaoanfaaTotals.lean).
  GIVEN WITH THE SEED: the statements are not yours to turn. If you find one false, say at which input.
  Laid BY PROGRAM, IN A SANDBOX (cutbox-rows.mjs): the forced cells as the released guide's own fill.sh prints them over the translation 61e6d62de7e5155c… (all of the seat's roots in one cut). By AI agents, Wed Nov 11 2026. No macro, syntax, notation, axiom, sorry.
-/
import Derived.Test.YtfcgnnafaoanfaaChecked
import GoSem.Claim
import GoSem.ClaimJoined
import GoSem.ClaimMapViews
import Derived.JoinedTies
import Derived.KernelRfl
namespace Go.Proofs.Ytfcgnnafaoanfaa
/- THE CELL 'sum', in the pinned program and in every row, IS THE sha256 OF THE DUMP (.gsa) THAT YtfcgnnafaoanfaaProg.lean LOADS. Nothing in Lean hashes anything: it is a label: what it is worth is what the hold of that sum in a sandbox is worth. -/
noncomputable def Try.pinned : Pinned := { name := "ytfcgnnafaoanfaa", sum := "61e6d62de7e5155c474e81816742b9dae42f4abd4b985bcf319a8d0a68663afd", checked := Try.checked }
namespace Rows
def none {H : Type} : Left H := { results := [], args := [] }

/-- 'patchbaylaw33.DepsStages': WHATEVER THE INPUT: true; the input reads as it did. -/
def depsStagesSpec : ChangeSpec := { name := "depsStages", fn := fun _ => fun
  | [d1, d2] => { results := [.lit (.bool true)], args := [d1, d2] }
  | _ => none }
def depsStagesRow : OpenClaim := { program := "ytfcgnnafaoanfaa", sum := "61e6d62de7e5155c474e81816742b9dae42f4abd4b985bcf319a8d0a68663afd", func := "patchbay/patchbaylaw33.DepsStages", spec := "depsStages", apart := false }
def DepsStagesSaid : Prop := depsStagesRow.holds Try.pinned (OpenSpec.ofChange depsStagesSpec)

/-- ITS FALSE NEIGHBOUR: 'it returns false'. Refute it at one input. -/
def depsStagesWrong : ChangeSpec := { name := "depsStages", fn := fun _ => fun
  | [d1, d2] => { results := [.lit (.bool false)], args := [d1, d2] }
  | _ => none }
def DepsStagesWrongFalsely : Prop := depsStagesRow.holds Try.pinned (OpenSpec.ofChange depsStagesWrong)

/-- 'patchbaylaw33.DepsCriticalPath': WHATEVER THE INPUT: true; the input reads as it did. -/
def depsCriticalPathSpec : ChangeSpec := { name := "depsCriticalPath", fn := fun _ => fun
  | [d] => { results := [.lit (.bool true)], args := [d] }
  | _ => none }
def depsCriticalPathRow : OpenClaim := { program := "ytfcgnnafaoanfaa", sum := "61e6d62de7e5155c474e81816742b9dae42f4abd4b985bcf319a8d0a68663afd", func := "patchbay/patchbaylaw33.DepsCriticalPath", spec := "depsCriticalPath", apart := false }
def DepsCriticalPathSaid : Prop := depsCriticalPathRow.holds Try.pinned (OpenSpec.ofChange depsCriticalPathSpec)

/-- ITS FALSE NEIGHBOUR: 'it returns false'. Refute it at one input. -/
def depsCriticalPathWrong : ChangeSpec := { name := "depsCriticalPath", fn := fun _ => fun
  | [d] => { results := [.lit (.bool false)], args := [d] }
  | _ => none }
def DepsCriticalPathWrongFalsely : Prop := depsCriticalPathRow.holds Try.pinned (OpenSpec.ofChange depsCriticalPathWrong)

/-- 'patchbaylaw33.DepsOptimal': WHATEVER THE INPUT: true; the input reads as it did. -/
def depsOptimalSpec : ChangeSpec := { name := "depsOptimal", fn := fun _ => fun
  | [d1, d2] => { results := [.lit (.bool true)], args := [d1, d2] }
  | _ => none }
def depsOptimalRow : OpenClaim := { program := "ytfcgnnafaoanfaa", sum := "61e6d62de7e5155c474e81816742b9dae42f4abd4b985bcf319a8d0a68663afd", func := "patchbay/patchbaylaw33.DepsOptimal", spec := "depsOptimal", apart := false }
def DepsOptimalSaid : Prop := depsOptimalRow.holds Try.pinned (OpenSpec.ofChange depsOptimalSpec)

/-- ITS FALSE NEIGHBOUR: 'it returns false'. Refute it at one input. -/
def depsOptimalWrong : ChangeSpec := { name := "depsOptimal", fn := fun _ => fun
  | [d1, d2] => { results := [.lit (.bool false)], args := [d1, d2] }
  | _ => none }
def DepsOptimalWrongFalsely : Prop := depsOptimalRow.holds Try.pinned (OpenSpec.ofChange depsOptimalWrong)

/- THE SECOND FORM. 'bulk': how many values and letters a reading holds, each counted each time it is reached (what is shared counts as often as it is met; a slice's spare places count too). A statement '..UptoSaid' is the law's where the arguments, and the package variables that the reading takes, are together of bulk at most 1048576: NARROWER than '..Said'. Prove '..Said' where nothing that the law and all that it calls make is longer than what came in: it says more and counts as full. Else prove '..UptoSaid'. A law counts once. -/
mutual
def uptoBulk {H : Type} : DataW H → Nat
  | .lit (.string bytes) => bytes.length + 1
  | .lit _ => 1
  | .nil => 1
  | .ptr d => uptoBulk d + 1
  | .slice elems spare => uptoBulkAll elems + uptoBulkAll spare + 1
  | .agg parts => uptoBulkAll parts + 1
  | .iface _ d => uptoBulk d + 1
  | .map entries => uptoBulkEntries entries + 1
  | .held _ => 1
def uptoBulkAll {H : Type} : List (DataW H) → Nat
  | [] => 0
  | d :: r => uptoBulk d + uptoBulkAll r
def uptoBulkEntries {H : Type} : List (Lit × DataW H) → Nat
  | [] => 0
  | x :: r => uptoBulkEntry x + uptoBulkEntries r
def uptoBulkEntry {H : Type} : Lit × DataW H → Nat
  | (.string bytes, d) => bytes.length + uptoBulk d + 1
  | (_, d) => uptoBulk d + 1
 end
def uptoSmall : (H : Type) → List (DataW H) → Bool := fun _ ds => decide (uptoBulkAll ds ≤ 1048576)
def OpenSpec.upto (s : _root_.Go.ChangeSpec) : _root_.Go.OpenSpec := { _root_.Go.OpenSpec.ofChange s with cond := some uptoSmall }

/-- 'patchbaylaw33.DepsStages', WHERE WHAT IT READS IS OF BULK AT MOST 1048576: true; the input reads as it did. -/
def depsStagesUptoRow : OpenClaim := { program := "ytfcgnnafaoanfaa", sum := "61e6d62de7e5155c474e81816742b9dae42f4abd4b985bcf319a8d0a68663afd", func := "patchbay/patchbaylaw33.DepsStages", spec := "depsStages", apart := false, narrowed := true }
def DepsStagesUptoSaid : Prop := depsStagesUptoRow.holds Try.pinned (OpenSpec.upto depsStagesSpec)

/-- 'patchbaylaw33.DepsCriticalPath', WHERE WHAT IT READS IS OF BULK AT MOST 1048576: true; the input reads as it did. -/
def depsCriticalPathUptoRow : OpenClaim := { program := "ytfcgnnafaoanfaa", sum := "61e6d62de7e5155c474e81816742b9dae42f4abd4b985bcf319a8d0a68663afd", func := "patchbay/patchbaylaw33.DepsCriticalPath", spec := "depsCriticalPath", apart := false, narrowed := true }
def DepsCriticalPathUptoSaid : Prop := depsCriticalPathUptoRow.holds Try.pinned (OpenSpec.upto depsCriticalPathSpec)

/-- 'patchbaylaw33.DepsOptimal', WHERE WHAT IT READS IS OF BULK AT MOST 1048576: true; the input reads as it did. -/
def depsOptimalUptoRow : OpenClaim := { program := "ytfcgnnafaoanfaa", sum := "61e6d62de7e5155c474e81816742b9dae42f4abd4b985bcf319a8d0a68663afd", func := "patchbay/patchbaylaw33.DepsOptimal", spec := "depsOptimal", apart := false, narrowed := true }
def DepsOptimalUptoSaid : Prop := depsOptimalUptoRow.holds Try.pinned (OpenSpec.upto depsOptimalSpec)

end Rows
end Go.Proofs.Ytfcgnnafaoanfaa
