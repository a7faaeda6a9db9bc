/-
  No cell of these rows narrows 'for every input' (looked for: loops, veiled, ifaces, maps, wideKeys, modest, calm, conditions, laid).
  DERIVED. THE GIVEN ROWS OF THIS SEAT. 7 by the template 'for every input the law returns true; each argument reads behind the call as it read before'; 0 by the template 'total and deterministic' (their statements: YtpdimhpjehfjeaaTotals.lean).
  GIVEN WITH THE SEED: the statements are not yours to turn. If you find one false, say at which input.
  Laid BY PROGRAM, IN A SANDBOX (cutbox-rows.mjs): the forced cells as the released guide's own fill.sh prints them over the translation 32a343b4997edf58… (all of the seat's roots in one cut). By AI agents, Wed Nov 11 2026. No macro, syntax, notation, axiom, sorry.
-/
import Derived.Test.YtpdimhpjehfjeaaChecked
import GoSem.Claim
import GoSem.ClaimJoined
import GoSem.ClaimMapViews
import Derived.JoinedTies
import Derived.KernelRfl
namespace Go.Proofs.Ytpdimhpjehfjeaa
/- THE CELL 'sum', in the pinned program and in every row, IS THE sha256 OF THE DUMP (.gsa) THAT YtpdimhpjehfjeaaProg.lean LOADS. Nothing in Lean hashes anything: it is a label: what it is worth is what the hold of that sum in a sandbox is worth. -/
noncomputable def Try.pinned : Pinned := { name := "ytpdimhpjehfjeaa", sum := "32a343b4997edf5836ab93e268b68e86a15ab8adf2e8d9f7f4df62d33c5807b6", checked := Try.checked }
namespace Rows
def none {H : Type} : Left H := { results := [], args := [] }

/-- 'patchbaylaw06.DigraphChecks': WHATEVER THE INPUT: true; the input reads as it did. -/
def digraphChecksSpec : ChangeSpec := { name := "digraphChecks", fn := fun _ => fun
  | [d] => { results := [.lit (.bool true)], args := [d] }
  | _ => none }
def digraphChecksRow : OpenClaim := { program := "ytpdimhpjehfjeaa", sum := "32a343b4997edf5836ab93e268b68e86a15ab8adf2e8d9f7f4df62d33c5807b6", func := "patchbay/patchbaylaw06.DigraphChecks", spec := "digraphChecks", inPlace := ["slices.overlaps[int]"], unfollowed := true, recurses := true, apart := false }
def DigraphChecksSaid : Prop := digraphChecksRow.holds Try.pinned (OpenSpec.ofChange digraphChecksSpec)

/-- ITS FALSE NEIGHBOUR: 'it returns false'. Refute it at one input. -/
def digraphChecksWrong : ChangeSpec := { name := "digraphChecks", fn := fun _ => fun
  | [d] => { results := [.lit (.bool false)], args := [d] }
  | _ => none }
def DigraphChecksWrongFalsely : Prop := digraphChecksRow.holds Try.pinned (OpenSpec.ofChange digraphChecksWrong)

/-- 'patchbaylaw06.DigraphReachable': WHATEVER THE INPUT: true; the input reads as it did. -/
def digraphReachableSpec : ChangeSpec := { name := "digraphReachable", fn := fun _ => fun
  | [d1, d2] => { results := [.lit (.bool true)], args := [d1, d2] }
  | _ => none }
def digraphReachableRow : OpenClaim := { program := "ytpdimhpjehfjeaa", sum := "32a343b4997edf5836ab93e268b68e86a15ab8adf2e8d9f7f4df62d33c5807b6", func := "patchbay/patchbaylaw06.DigraphReachable", spec := "digraphReachable", inPlace := ["slices.overlaps[int]"], unfollowed := true, recurses := true, apart := false }
def DigraphReachableSaid : Prop := digraphReachableRow.holds Try.pinned (OpenSpec.ofChange digraphReachableSpec)

/-- ITS FALSE NEIGHBOUR: 'it returns false'. Refute it at one input. -/
def digraphReachableWrong : ChangeSpec := { name := "digraphReachable", fn := fun _ => fun
  | [d1, d2] => { results := [.lit (.bool false)], args := [d1, d2] }
  | _ => none }
def DigraphReachableWrongFalsely : Prop := digraphReachableRow.holds Try.pinned (OpenSpec.ofChange digraphReachableWrong)

/-- 'patchbaylaw06.DigraphPaths': WHATEVER THE INPUT: true; the input reads as it did. -/
def digraphPathsSpec : ChangeSpec := { name := "digraphPaths", fn := fun _ => fun
  | [d1, d2, d3] => { results := [.lit (.bool true)], args := [d1, d2, d3] }
  | _ => none }
def digraphPathsRow : OpenClaim := { program := "ytpdimhpjehfjeaa", sum := "32a343b4997edf5836ab93e268b68e86a15ab8adf2e8d9f7f4df62d33c5807b6", func := "patchbay/patchbaylaw06.DigraphPaths", spec := "digraphPaths", inPlace := ["slices.overlaps[int]"], unfollowed := true, recurses := true, apart := false }
def DigraphPathsSaid : Prop := digraphPathsRow.holds Try.pinned (OpenSpec.ofChange digraphPathsSpec)

/-- ITS FALSE NEIGHBOUR: 'it returns false'. Refute it at one input. -/
def digraphPathsWrong : ChangeSpec := { name := "digraphPaths", fn := fun _ => fun
  | [d1, d2, d3] => { results := [.lit (.bool false)], args := [d1, d2, d3] }
  | _ => none }
def DigraphPathsWrongFalsely : Prop := digraphPathsRow.holds Try.pinned (OpenSpec.ofChange digraphPathsWrong)

/-- 'patchbaylaw06.DigraphOrders': WHATEVER THE INPUT: true; the input reads as it did. -/
def digraphOrdersSpec : ChangeSpec := { name := "digraphOrders", fn := fun _ => fun
  | [d] => { results := [.lit (.bool true)], args := [d] }
  | _ => none }
def digraphOrdersRow : OpenClaim := { program := "ytpdimhpjehfjeaa", sum := "32a343b4997edf5836ab93e268b68e86a15ab8adf2e8d9f7f4df62d33c5807b6", func := "patchbay/patchbaylaw06.DigraphOrders", spec := "digraphOrders", inPlace := ["slices.overlaps[int]"], unfollowed := true, recurses := true, apart := false }
def DigraphOrdersSaid : Prop := digraphOrdersRow.holds Try.pinned (OpenSpec.ofChange digraphOrdersSpec)

/-- ITS FALSE NEIGHBOUR: 'it returns false'. Refute it at one input. -/
def digraphOrdersWrong : ChangeSpec := { name := "digraphOrders", fn := fun _ => fun
  | [d] => { results := [.lit (.bool false)], args := [d] }
  | _ => none }
def DigraphOrdersWrongFalsely : Prop := digraphOrdersRow.holds Try.pinned (OpenSpec.ofChange digraphOrdersWrong)

/-- 'patchbaylaw06.DigraphCycles': WHATEVER THE INPUT: true; the input reads as it did. -/
def digraphCyclesSpec : ChangeSpec := { name := "digraphCycles", fn := fun _ => fun
  | [d] => { results := [.lit (.bool true)], args := [d] }
  | _ => none }
def digraphCyclesRow : OpenClaim := { program := "ytpdimhpjehfjeaa", sum := "32a343b4997edf5836ab93e268b68e86a15ab8adf2e8d9f7f4df62d33c5807b6", func := "patchbay/patchbaylaw06.DigraphCycles", spec := "digraphCycles", inPlace := ["slices.overlaps[int]"], unfollowed := true, recurses := true, apart := false }
def DigraphCyclesSaid : Prop := digraphCyclesRow.holds Try.pinned (OpenSpec.ofChange digraphCyclesSpec)

/-- ITS FALSE NEIGHBOUR: 'it returns false'. Refute it at one input. -/
def digraphCyclesWrong : ChangeSpec := { name := "digraphCycles", fn := fun _ => fun
  | [d] => { results := [.lit (.bool false)], args := [d] }
  | _ => none }
def DigraphCyclesWrongFalsely : Prop := digraphCyclesRow.holds Try.pinned (OpenSpec.ofChange digraphCyclesWrong)

/-- 'patchbaylaw06.DigraphAcyclic': WHATEVER THE INPUT: true; the input reads as it did. -/
def digraphAcyclicSpec : ChangeSpec := { name := "digraphAcyclic", fn := fun _ => fun
  | [d] => { results := [.lit (.bool true)], args := [d] }
  | _ => none }
def digraphAcyclicRow : OpenClaim := { program := "ytpdimhpjehfjeaa", sum := "32a343b4997edf5836ab93e268b68e86a15ab8adf2e8d9f7f4df62d33c5807b6", func := "patchbay/patchbaylaw06.DigraphAcyclic", spec := "digraphAcyclic", inPlace := ["slices.overlaps[int]"], unfollowed := true, recurses := true, apart := false }
def DigraphAcyclicSaid : Prop := digraphAcyclicRow.holds Try.pinned (OpenSpec.ofChange digraphAcyclicSpec)

/-- ITS FALSE NEIGHBOUR: 'it returns false'. Refute it at one input. -/
def digraphAcyclicWrong : ChangeSpec := { name := "digraphAcyclic", fn := fun _ => fun
  | [d] => { results := [.lit (.bool false)], args := [d] }
  | _ => none }
def DigraphAcyclicWrongFalsely : Prop := digraphAcyclicRow.holds Try.pinned (OpenSpec.ofChange digraphAcyclicWrong)

/-- 'patchbaylaw06.DigraphReverses': WHATEVER THE INPUT: true; the input reads as it did. -/
def digraphReversesSpec : ChangeSpec := { name := "digraphReverses", fn := fun _ => fun
  | [d1, d2, d3] => { results := [.lit (.bool true)], args := [d1, d2, d3] }
  | _ => none }
def digraphReversesRow : OpenClaim := { program := "ytpdimhpjehfjeaa", sum := "32a343b4997edf5836ab93e268b68e86a15ab8adf2e8d9f7f4df62d33c5807b6", func := "patchbay/patchbaylaw06.DigraphReverses", spec := "digraphReverses", inPlace := ["slices.overlaps[int]"], unfollowed := true, recurses := true, apart := false }
def DigraphReversesSaid : Prop := digraphReversesRow.holds Try.pinned (OpenSpec.ofChange digraphReversesSpec)

/-- ITS FALSE NEIGHBOUR: 'it returns false'. Refute it at one input. -/
def digraphReversesWrong : ChangeSpec := { name := "digraphReverses", fn := fun _ => fun
  | [d1, d2, d3] => { results := [.lit (.bool false)], args := [d1, d2, d3] }
  | _ => none }
def DigraphReversesWrongFalsely : Prop := digraphReversesRow.holds Try.pinned (OpenSpec.ofChange digraphReversesWrong)

/- THE SECOND FORM. 'bulk': how many values and letters a reading holds, each counted each time it is reached (what is shared counts as often as it is met; a slice's spare places count too). A statement '..UptoSaid' is the law's where the arguments, and the package variables that the reading takes, are together of bulk at most 1048576: NARROWER than '..Said'. Prove '..Said' where nothing that the law and all that it calls make is longer than what came in: it says more and counts as full. Else prove '..UptoSaid'. A law counts once. -/
mutual
def uptoBulk {H : Type} : DataW H → Nat
  | .lit (.string bytes) => bytes.length + 1
  | .lit _ => 1
  | .nil => 1
  | .ptr d => uptoBulk d + 1
  | .slice elems spare => uptoBulkAll elems + uptoBulkAll spare + 1
  | .agg parts => uptoBulkAll parts + 1
  | .iface _ d => uptoBulk d + 1
  | .map entries => uptoBulkEntries entries + 1
  | .held _ => 1
def uptoBulkAll {H : Type} : List (DataW H) → Nat
  | [] => 0
  | d :: r => uptoBulk d + uptoBulkAll r
def uptoBulkEntries {H : Type} : List (Lit × DataW H) → Nat
  | [] => 0
  | x :: r => uptoBulkEntry x + uptoBulkEntries r
def uptoBulkEntry {H : Type} : Lit × DataW H → Nat
  | (.string bytes, d) => bytes.length + uptoBulk d + 1
  | (_, d) => uptoBulk d + 1
 end
def uptoSmall : (H : Type) → List (DataW H) → Bool := fun _ ds => decide (uptoBulkAll ds ≤ 1048576)
def OpenSpec.upto (s : _root_.Go.ChangeSpec) : _root_.Go.OpenSpec := { _root_.Go.OpenSpec.ofChange s with cond := some uptoSmall }

/-- 'patchbaylaw06.DigraphChecks', WHERE WHAT IT READS IS OF BULK AT MOST 1048576: true; the input reads as it did. -/
def digraphChecksUptoRow : OpenClaim := { program := "ytpdimhpjehfjeaa", sum := "32a343b4997edf5836ab93e268b68e86a15ab8adf2e8d9f7f4df62d33c5807b6", func := "patchbay/patchbaylaw06.DigraphChecks", spec := "digraphChecks", inPlace := ["slices.overlaps[int]"], unfollowed := true, recurses := true, apart := false, narrowed := true }
def DigraphChecksUptoSaid : Prop := digraphChecksUptoRow.holds Try.pinned (OpenSpec.upto digraphChecksSpec)

/-- 'patchbaylaw06.DigraphReachable', WHERE WHAT IT READS IS OF BULK AT MOST 1048576: true; the input reads as it did. -/
def digraphReachableUptoRow : OpenClaim := { program := "ytpdimhpjehfjeaa", sum := "32a343b4997edf5836ab93e268b68e86a15ab8adf2e8d9f7f4df62d33c5807b6", func := "patchbay/patchbaylaw06.DigraphReachable", spec := "digraphReachable", inPlace := ["slices.overlaps[int]"], unfollowed := true, recurses := true, apart := false, narrowed := true }
def DigraphReachableUptoSaid : Prop := digraphReachableUptoRow.holds Try.pinned (OpenSpec.upto digraphReachableSpec)

/-- 'patchbaylaw06.DigraphPaths', WHERE WHAT IT READS IS OF BULK AT MOST 1048576: true; the input reads as it did. -/
def digraphPathsUptoRow : OpenClaim := { program := "ytpdimhpjehfjeaa", sum := "32a343b4997edf5836ab93e268b68e86a15ab8adf2e8d9f7f4df62d33c5807b6", func := "patchbay/patchbaylaw06.DigraphPaths", spec := "digraphPaths", inPlace := ["slices.overlaps[int]"], unfollowed := true, recurses := true, apart := false, narrowed := true }
def DigraphPathsUptoSaid : Prop := digraphPathsUptoRow.holds Try.pinned (OpenSpec.upto digraphPathsSpec)

/-- 'patchbaylaw06.DigraphOrders', WHERE WHAT IT READS IS OF BULK AT MOST 1048576: true; the input reads as it did. -/
def digraphOrdersUptoRow : OpenClaim := { program := "ytpdimhpjehfjeaa", sum := "32a343b4997edf5836ab93e268b68e86a15ab8adf2e8d9f7f4df62d33c5807b6", func := "patchbay/patchbaylaw06.DigraphOrders", spec := "digraphOrders", inPlace := ["slices.overlaps[int]"], unfollowed := true, recurses := true, apart := false, narrowed := true }
def DigraphOrdersUptoSaid : Prop := digraphOrdersUptoRow.holds Try.pinned (OpenSpec.upto digraphOrdersSpec)

/-- 'patchbaylaw06.DigraphCycles', WHERE WHAT IT READS IS OF BULK AT MOST 1048576: true; the input reads as it did. -/
def digraphCyclesUptoRow : OpenClaim := { program := "ytpdimhpjehfjeaa", sum := "32a343b4997edf5836ab93e268b68e86a15ab8adf2e8d9f7f4df62d33c5807b6", func := "patchbay/patchbaylaw06.DigraphCycles", spec := "digraphCycles", inPlace := ["slices.overlaps[int]"], unfollowed := true, recurses := true, apart := false, narrowed := true }
def DigraphCyclesUptoSaid : Prop := digraphCyclesUptoRow.holds Try.pinned (OpenSpec.upto digraphCyclesSpec)

/-- 'patchbaylaw06.DigraphAcyclic', WHERE WHAT IT READS IS OF BULK AT MOST 1048576: true; the input reads as it did. -/
def digraphAcyclicUptoRow : OpenClaim := { program := "ytpdimhpjehfjeaa", sum := "32a343b4997edf5836ab93e268b68e86a15ab8adf2e8d9f7f4df62d33c5807b6", func := "patchbay/patchbaylaw06.DigraphAcyclic", spec := "digraphAcyclic", inPlace := ["slices.overlaps[int]"], unfollowed := true, recurses := true, apart := false, narrowed := true }
def DigraphAcyclicUptoSaid : Prop := digraphAcyclicUptoRow.holds Try.pinned (OpenSpec.upto digraphAcyclicSpec)

/-- 'patchbaylaw06.DigraphReverses', WHERE WHAT IT READS IS OF BULK AT MOST 1048576: true; the input reads as it did. -/
def digraphReversesUptoRow : OpenClaim := { program := "ytpdimhpjehfjeaa", sum := "32a343b4997edf5836ab93e268b68e86a15ab8adf2e8d9f7f4df62d33c5807b6", func := "patchbay/patchbaylaw06.DigraphReverses", spec := "digraphReverses", inPlace := ["slices.overlaps[int]"], unfollowed := true, recurses := true, apart := false, narrowed := true }
def DigraphReversesUptoSaid : Prop := digraphReversesUptoRow.holds Try.pinned (OpenSpec.upto digraphReversesSpec)

end Rows
end Go.Proofs.Ytpdimhpjehfjeaa
