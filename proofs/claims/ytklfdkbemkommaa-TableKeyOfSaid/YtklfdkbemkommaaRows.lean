/-
  NARROWER THAN 'FOR EVERY INPUT', by the rows' own cells (each row's printed sentence says how): TableChecks: loops · TableQueries: loops · TableKeys: loops · TableConsistent: loops · TableKeyOf: loops · EntryChecks: loops · EntryPrecedes: loops · EntryOrder: loops · EntryExact: loops.
  DERIVED. THE GIVEN ROWS OF THIS SEAT. 11 by the template 'for every input the law returns true; each argument reads behind the call as it read before'; 0 by the template 'total and deterministic' (their statements: YtklfdkbemkommaaTotals.lean).
  GIVEN WITH THE SEED: the statements are not yours to turn. If you find one false, say at which input.
  Laid BY PROGRAM, IN A SANDBOX (cutbox-rows.mjs): the forced cells as the released guide's own fill.sh prints them over the translation 084e62ce1a552da8… (all of the seat's roots in one cut). By AI agents, Wed Nov 11 2026. No macro, syntax, notation, axiom, sorry.
-/
import Derived.Test.YtklfdkbemkommaaChecked
import GoSem.Claim
import GoSem.ClaimJoined
import GoSem.ClaimMapViews
import Derived.JoinedTies
import Derived.KernelRfl
namespace Go.Proofs.Ytklfdkbemkommaa
/- THE CELL 'sum', in the pinned program and in every row, IS THE sha256 OF THE DUMP (.gsa) THAT YtklfdkbemkommaaProg.lean LOADS. Nothing in Lean hashes anything: it is a label: what it is worth is what the hold of that sum in a sandbox is worth. -/
noncomputable def Try.pinned : Pinned := { name := "ytklfdkbemkommaa", sum := "084e62ce1a552da8adb04923690f0f8c6d7eb4caa362f90b883be836bfff6d1e", checked := Try.checked }
namespace Rows
def none {H : Type} : Left H := { results := [], args := [] }

/-- 'patchbaylaw17.TableChecks': WHATEVER THE INPUT: true; the input reads as it did. -/
def tableChecksSpec : ChangeSpec := { name := "tableChecks", fn := fun _ => fun
  | [d1, d2] => { results := [.lit (.bool true)], args := [d1, d2] }
  | _ => none }
def tableChecksRow : OpenClaim := { program := "ytklfdkbemkommaa", sum := "084e62ce1a552da8adb04923690f0f8c6d7eb4caa362f90b883be836bfff6d1e", func := "patchbay/patchbaylaw17.TableChecks", spec := "tableChecks", unfollowed := true, recurses := true, loops := true, apart := false }
def TableChecksSaid : Prop := tableChecksRow.holds Try.pinned (OpenSpec.ofChange tableChecksSpec)

/-- ITS FALSE NEIGHBOUR: 'it returns false'. Refute it at one input. -/
def tableChecksWrong : ChangeSpec := { name := "tableChecks", fn := fun _ => fun
  | [d1, d2] => { results := [.lit (.bool false)], args := [d1, d2] }
  | _ => none }
def TableChecksWrongFalsely : Prop := tableChecksRow.holds Try.pinned (OpenSpec.ofChange tableChecksWrong)

/-- 'patchbaylaw17.TableQueries': WHATEVER THE INPUT: true; the input reads as it did. -/
def tableQueriesSpec : ChangeSpec := { name := "tableQueries", fn := fun _ => fun
  | [d1, d2, d3] => { results := [.lit (.bool true)], args := [d1, d2, d3] }
  | _ => none }
def tableQueriesRow : OpenClaim := { program := "ytklfdkbemkommaa", sum := "084e62ce1a552da8adb04923690f0f8c6d7eb4caa362f90b883be836bfff6d1e", func := "patchbay/patchbaylaw17.TableQueries", spec := "tableQueries", unfollowed := true, recurses := true, loops := true, apart := false }
def TableQueriesSaid : Prop := tableQueriesRow.holds Try.pinned (OpenSpec.ofChange tableQueriesSpec)

/-- ITS FALSE NEIGHBOUR: 'it returns false'. Refute it at one input. -/
def tableQueriesWrong : ChangeSpec := { name := "tableQueries", fn := fun _ => fun
  | [d1, d2, d3] => { results := [.lit (.bool false)], args := [d1, d2, d3] }
  | _ => none }
def TableQueriesWrongFalsely : Prop := tableQueriesRow.holds Try.pinned (OpenSpec.ofChange tableQueriesWrong)

/-- 'patchbaylaw17.TableKeys': WHATEVER THE INPUT: true; the input reads as it did. -/
def tableKeysSpec : ChangeSpec := { name := "tableKeys", fn := fun _ => fun
  | [d1, d2, d3] => { results := [.lit (.bool true)], args := [d1, d2, d3] }
  | _ => none }
def tableKeysRow : OpenClaim := { program := "ytklfdkbemkommaa", sum := "084e62ce1a552da8adb04923690f0f8c6d7eb4caa362f90b883be836bfff6d1e", func := "patchbay/patchbaylaw17.TableKeys", spec := "tableKeys", unfollowed := true, recurses := true, loops := true, apart := false }
def TableKeysSaid : Prop := tableKeysRow.holds Try.pinned (OpenSpec.ofChange tableKeysSpec)

/-- ITS FALSE NEIGHBOUR: 'it returns false'. Refute it at one input. -/
def tableKeysWrong : ChangeSpec := { name := "tableKeys", fn := fun _ => fun
  | [d1, d2, d3] => { results := [.lit (.bool false)], args := [d1, d2, d3] }
  | _ => none }
def TableKeysWrongFalsely : Prop := tableKeysRow.holds Try.pinned (OpenSpec.ofChange tableKeysWrong)

/-- 'patchbaylaw17.TableConsistent': WHATEVER THE INPUT: true; the input reads as it did. -/
def tableConsistentSpec : ChangeSpec := { name := "tableConsistent", fn := fun _ => fun
  | [d1, d2, d3] => { results := [.lit (.bool true)], args := [d1, d2, d3] }
  | _ => none }
def tableConsistentRow : OpenClaim := { program := "ytklfdkbemkommaa", sum := "084e62ce1a552da8adb04923690f0f8c6d7eb4caa362f90b883be836bfff6d1e", func := "patchbay/patchbaylaw17.TableConsistent", spec := "tableConsistent", unfollowed := true, recurses := true, loops := true, apart := false }
def TableConsistentSaid : Prop := tableConsistentRow.holds Try.pinned (OpenSpec.ofChange tableConsistentSpec)

/-- ITS FALSE NEIGHBOUR: 'it returns false'. Refute it at one input. -/
def tableConsistentWrong : ChangeSpec := { name := "tableConsistent", fn := fun _ => fun
  | [d1, d2, d3] => { results := [.lit (.bool false)], args := [d1, d2, d3] }
  | _ => none }
def TableConsistentWrongFalsely : Prop := tableConsistentRow.holds Try.pinned (OpenSpec.ofChange tableConsistentWrong)

/-- 'patchbaylaw17.TableKeyOf': WHATEVER THE INPUT: true; the input reads as it did. -/
def tableKeyOfSpec : ChangeSpec := { name := "tableKeyOf", fn := fun _ => fun
  | [d1, d2, d3] => { results := [.lit (.bool true)], args := [d1, d2, d3] }
  | _ => none }
def tableKeyOfRow : OpenClaim := { program := "ytklfdkbemkommaa", sum := "084e62ce1a552da8adb04923690f0f8c6d7eb4caa362f90b883be836bfff6d1e", func := "patchbay/patchbaylaw17.TableKeyOf", spec := "tableKeyOf", unfollowed := true, recurses := true, loops := true, apart := false }
def TableKeyOfSaid : Prop := tableKeyOfRow.holds Try.pinned (OpenSpec.ofChange tableKeyOfSpec)

/-- ITS FALSE NEIGHBOUR: 'it returns false'. Refute it at one input. -/
def tableKeyOfWrong : ChangeSpec := { name := "tableKeyOf", fn := fun _ => fun
  | [d1, d2, d3] => { results := [.lit (.bool false)], args := [d1, d2, d3] }
  | _ => none }
def TableKeyOfWrongFalsely : Prop := tableKeyOfRow.holds Try.pinned (OpenSpec.ofChange tableKeyOfWrong)

/-- 'patchbaylaw23.EntryChecks': WHATEVER THE INPUT: true; the input reads as it did. -/
def entryChecksSpec : ChangeSpec := { name := "entryChecks", fn := fun _ => fun
  | [d1, d2, d3] => { results := [.lit (.bool true)], args := [d1, d2, d3] }
  | _ => none }
def entryChecksRow : OpenClaim := { program := "ytklfdkbemkommaa", sum := "084e62ce1a552da8adb04923690f0f8c6d7eb4caa362f90b883be836bfff6d1e", func := "patchbay/patchbaylaw23.EntryChecks", spec := "entryChecks", unfollowed := true, recurses := true, loops := true, apart := false }
def EntryChecksSaid : Prop := entryChecksRow.holds Try.pinned (OpenSpec.ofChange entryChecksSpec)

/-- ITS FALSE NEIGHBOUR: 'it returns false'. Refute it at one input. -/
def entryChecksWrong : ChangeSpec := { name := "entryChecks", fn := fun _ => fun
  | [d1, d2, d3] => { results := [.lit (.bool false)], args := [d1, d2, d3] }
  | _ => none }
def EntryChecksWrongFalsely : Prop := entryChecksRow.holds Try.pinned (OpenSpec.ofChange entryChecksWrong)

/-- 'patchbaylaw23.EntryMatches': WHATEVER THE INPUT: true; the input reads as it did. -/
def entryMatchesSpec : ChangeSpec := { name := "entryMatches", fn := fun _ => fun
  | [d1, d2] => { results := [.lit (.bool true)], args := [d1, d2] }
  | _ => none }
def entryMatchesRow : OpenClaim := { program := "ytklfdkbemkommaa", sum := "084e62ce1a552da8adb04923690f0f8c6d7eb4caa362f90b883be836bfff6d1e", func := "patchbay/patchbaylaw23.EntryMatches", spec := "entryMatches", unfollowed := true, recurses := true, apart := false }
def EntryMatchesSaid : Prop := entryMatchesRow.holds Try.pinned (OpenSpec.ofChange entryMatchesSpec)

/-- ITS FALSE NEIGHBOUR: 'it returns false'. Refute it at one input. -/
def entryMatchesWrong : ChangeSpec := { name := "entryMatches", fn := fun _ => fun
  | [d1, d2] => { results := [.lit (.bool false)], args := [d1, d2] }
  | _ => none }
def EntryMatchesWrongFalsely : Prop := entryMatchesRow.holds Try.pinned (OpenSpec.ofChange entryMatchesWrong)

/-- 'patchbaylaw23.EntryPrecedes': WHATEVER THE INPUT: true; the input reads as it did. -/
def entryPrecedesSpec : ChangeSpec := { name := "entryPrecedes", fn := fun _ => fun
  | [d1, d2, d3] => { results := [.lit (.bool true)], args := [d1, d2, d3] }
  | _ => none }
def entryPrecedesRow : OpenClaim := { program := "ytklfdkbemkommaa", sum := "084e62ce1a552da8adb04923690f0f8c6d7eb4caa362f90b883be836bfff6d1e", func := "patchbay/patchbaylaw23.EntryPrecedes", spec := "entryPrecedes", unfollowed := true, recurses := true, loops := true, apart := false }
def EntryPrecedesSaid : Prop := entryPrecedesRow.holds Try.pinned (OpenSpec.ofChange entryPrecedesSpec)

/-- ITS FALSE NEIGHBOUR: 'it returns false'. Refute it at one input. -/
def entryPrecedesWrong : ChangeSpec := { name := "entryPrecedes", fn := fun _ => fun
  | [d1, d2, d3] => { results := [.lit (.bool false)], args := [d1, d2, d3] }
  | _ => none }
def EntryPrecedesWrongFalsely : Prop := entryPrecedesRow.holds Try.pinned (OpenSpec.ofChange entryPrecedesWrong)

/-- 'patchbaylaw23.EntryCompares': WHATEVER THE INPUT: true; the input reads as it did. -/
def entryComparesSpec : ChangeSpec := { name := "entryCompares", fn := fun _ => fun
  | [d1, d2] => { results := [.lit (.bool true)], args := [d1, d2] }
  | _ => none }
def entryComparesRow : OpenClaim := { program := "ytklfdkbemkommaa", sum := "084e62ce1a552da8adb04923690f0f8c6d7eb4caa362f90b883be836bfff6d1e", func := "patchbay/patchbaylaw23.EntryCompares", spec := "entryCompares", unfollowed := true, recurses := true, apart := false }
def EntryComparesSaid : Prop := entryComparesRow.holds Try.pinned (OpenSpec.ofChange entryComparesSpec)

/-- ITS FALSE NEIGHBOUR: 'it returns false'. Refute it at one input. -/
def entryComparesWrong : ChangeSpec := { name := "entryCompares", fn := fun _ => fun
  | [d1, d2] => { results := [.lit (.bool false)], args := [d1, d2] }
  | _ => none }
def EntryComparesWrongFalsely : Prop := entryComparesRow.holds Try.pinned (OpenSpec.ofChange entryComparesWrong)

/-- 'patchbaylaw23.EntryOrder': WHATEVER THE INPUT: true; the input reads as it did. -/
def entryOrderSpec : ChangeSpec := { name := "entryOrder", fn := fun _ => fun
  | [d1, d2, d3] => { results := [.lit (.bool true)], args := [d1, d2, d3] }
  | _ => none }
def entryOrderRow : OpenClaim := { program := "ytklfdkbemkommaa", sum := "084e62ce1a552da8adb04923690f0f8c6d7eb4caa362f90b883be836bfff6d1e", func := "patchbay/patchbaylaw23.EntryOrder", spec := "entryOrder", unfollowed := true, recurses := true, loops := true, apart := false }
def EntryOrderSaid : Prop := entryOrderRow.holds Try.pinned (OpenSpec.ofChange entryOrderSpec)

/-- ITS FALSE NEIGHBOUR: 'it returns false'. Refute it at one input. -/
def entryOrderWrong : ChangeSpec := { name := "entryOrder", fn := fun _ => fun
  | [d1, d2, d3] => { results := [.lit (.bool false)], args := [d1, d2, d3] }
  | _ => none }
def EntryOrderWrongFalsely : Prop := entryOrderRow.holds Try.pinned (OpenSpec.ofChange entryOrderWrong)

/-- 'patchbaylaw23.EntryExact': WHATEVER THE INPUT: true; the input reads as it did. -/
def entryExactSpec : ChangeSpec := { name := "entryExact", fn := fun _ => fun
  | [d1, d2, d3] => { results := [.lit (.bool true)], args := [d1, d2, d3] }
  | _ => none }
def entryExactRow : OpenClaim := { program := "ytklfdkbemkommaa", sum := "084e62ce1a552da8adb04923690f0f8c6d7eb4caa362f90b883be836bfff6d1e", func := "patchbay/patchbaylaw23.EntryExact", spec := "entryExact", unfollowed := true, recurses := true, loops := true, apart := false }
def EntryExactSaid : Prop := entryExactRow.holds Try.pinned (OpenSpec.ofChange entryExactSpec)

/-- ITS FALSE NEIGHBOUR: 'it returns false'. Refute it at one input. -/
def entryExactWrong : ChangeSpec := { name := "entryExact", fn := fun _ => fun
  | [d1, d2, d3] => { results := [.lit (.bool false)], args := [d1, d2, d3] }
  | _ => none }
def EntryExactWrongFalsely : Prop := entryExactRow.holds Try.pinned (OpenSpec.ofChange entryExactWrong)

/- THE SECOND FORM. 'bulk': how many values and letters a reading holds, each counted each time it is reached (what is shared counts as often as it is met; a slice's spare places count too). A statement '..UptoSaid' is the law's where the arguments, and the package variables that the reading takes, are together of bulk at most 1048576: NARROWER than '..Said'. Prove '..Said' where nothing that the law and all that it calls make is longer than what came in: it says more and counts as full. Else prove '..UptoSaid'. A law counts once. -/
mutual
def uptoBulk {H : Type} : DataW H → Nat
  | .lit (.string bytes) => bytes.length + 1
  | .lit _ => 1
  | .nil => 1
  | .ptr d => uptoBulk d + 1
  | .slice elems spare => uptoBulkAll elems + uptoBulkAll spare + 1
  | .agg parts => uptoBulkAll parts + 1
  | .iface _ d => uptoBulk d + 1
  | .map entries => uptoBulkEntries entries + 1
  | .held _ => 1
def uptoBulkAll {H : Type} : List (DataW H) → Nat
  | [] => 0
  | d :: r => uptoBulk d + uptoBulkAll r
def uptoBulkEntries {H : Type} : List (Lit × DataW H) → Nat
  | [] => 0
  | x :: r => uptoBulkEntry x + uptoBulkEntries r
def uptoBulkEntry {H : Type} : Lit × DataW H → Nat
  | (.string bytes, d) => bytes.length + uptoBulk d + 1
  | (_, d) => uptoBulk d + 1
 end
def uptoSmall : (H : Type) → List (DataW H) → Bool := fun _ ds => decide (uptoBulkAll ds ≤ 1048576)
def OpenSpec.upto (s : _root_.Go.ChangeSpec) : _root_.Go.OpenSpec := { _root_.Go.OpenSpec.ofChange s with cond := some uptoSmall }

/-- 'patchbaylaw17.TableChecks', WHERE WHAT IT READS IS OF BULK AT MOST 1048576: true; the input reads as it did. -/
def tableChecksUptoRow : OpenClaim := { program := "ytklfdkbemkommaa", sum := "084e62ce1a552da8adb04923690f0f8c6d7eb4caa362f90b883be836bfff6d1e", func := "patchbay/patchbaylaw17.TableChecks", spec := "tableChecks", unfollowed := true, recurses := true, loops := true, apart := false, narrowed := true }
def TableChecksUptoSaid : Prop := tableChecksUptoRow.holds Try.pinned (OpenSpec.upto tableChecksSpec)

/-- 'patchbaylaw17.TableQueries', WHERE WHAT IT READS IS OF BULK AT MOST 1048576: true; the input reads as it did. -/
def tableQueriesUptoRow : OpenClaim := { program := "ytklfdkbemkommaa", sum := "084e62ce1a552da8adb04923690f0f8c6d7eb4caa362f90b883be836bfff6d1e", func := "patchbay/patchbaylaw17.TableQueries", spec := "tableQueries", unfollowed := true, recurses := true, loops := true, apart := false, narrowed := true }
def TableQueriesUptoSaid : Prop := tableQueriesUptoRow.holds Try.pinned (OpenSpec.upto tableQueriesSpec)

/-- 'patchbaylaw17.TableKeys', WHERE WHAT IT READS IS OF BULK AT MOST 1048576: true; the input reads as it did. -/
def tableKeysUptoRow : OpenClaim := { program := "ytklfdkbemkommaa", sum := "084e62ce1a552da8adb04923690f0f8c6d7eb4caa362f90b883be836bfff6d1e", func := "patchbay/patchbaylaw17.TableKeys", spec := "tableKeys", unfollowed := true, recurses := true, loops := true, apart := false, narrowed := true }
def TableKeysUptoSaid : Prop := tableKeysUptoRow.holds Try.pinned (OpenSpec.upto tableKeysSpec)

/-- 'patchbaylaw17.TableConsistent', WHERE WHAT IT READS IS OF BULK AT MOST 1048576: true; the input reads as it did. -/
def tableConsistentUptoRow : OpenClaim := { program := "ytklfdkbemkommaa", sum := "084e62ce1a552da8adb04923690f0f8c6d7eb4caa362f90b883be836bfff6d1e", func := "patchbay/patchbaylaw17.TableConsistent", spec := "tableConsistent", unfollowed := true, recurses := true, loops := true, apart := false, narrowed := true }
def TableConsistentUptoSaid : Prop := tableConsistentUptoRow.holds Try.pinned (OpenSpec.upto tableConsistentSpec)

/-- 'patchbaylaw17.TableKeyOf', WHERE WHAT IT READS IS OF BULK AT MOST 1048576: true; the input reads as it did. -/
def tableKeyOfUptoRow : OpenClaim := { program := "ytklfdkbemkommaa", sum := "084e62ce1a552da8adb04923690f0f8c6d7eb4caa362f90b883be836bfff6d1e", func := "patchbay/patchbaylaw17.TableKeyOf", spec := "tableKeyOf", unfollowed := true, recurses := true, loops := true, apart := false, narrowed := true }
def TableKeyOfUptoSaid : Prop := tableKeyOfUptoRow.holds Try.pinned (OpenSpec.upto tableKeyOfSpec)

/-- 'patchbaylaw23.EntryChecks', WHERE WHAT IT READS IS OF BULK AT MOST 1048576: true; the input reads as it did. -/
def entryChecksUptoRow : OpenClaim := { program := "ytklfdkbemkommaa", sum := "084e62ce1a552da8adb04923690f0f8c6d7eb4caa362f90b883be836bfff6d1e", func := "patchbay/patchbaylaw23.EntryChecks", spec := "entryChecks", unfollowed := true, recurses := true, loops := true, apart := false, narrowed := true }
def EntryChecksUptoSaid : Prop := entryChecksUptoRow.holds Try.pinned (OpenSpec.upto entryChecksSpec)

/-- 'patchbaylaw23.EntryMatches', WHERE WHAT IT READS IS OF BULK AT MOST 1048576: true; the input reads as it did. -/
def entryMatchesUptoRow : OpenClaim := { program := "ytklfdkbemkommaa", sum := "084e62ce1a552da8adb04923690f0f8c6d7eb4caa362f90b883be836bfff6d1e", func := "patchbay/patchbaylaw23.EntryMatches", spec := "entryMatches", unfollowed := true, recurses := true, apart := false, narrowed := true }
def EntryMatchesUptoSaid : Prop := entryMatchesUptoRow.holds Try.pinned (OpenSpec.upto entryMatchesSpec)

/-- 'patchbaylaw23.EntryPrecedes', WHERE WHAT IT READS IS OF BULK AT MOST 1048576: true; the input reads as it did. -/
def entryPrecedesUptoRow : OpenClaim := { program := "ytklfdkbemkommaa", sum := "084e62ce1a552da8adb04923690f0f8c6d7eb4caa362f90b883be836bfff6d1e", func := "patchbay/patchbaylaw23.EntryPrecedes", spec := "entryPrecedes", unfollowed := true, recurses := true, loops := true, apart := false, narrowed := true }
def EntryPrecedesUptoSaid : Prop := entryPrecedesUptoRow.holds Try.pinned (OpenSpec.upto entryPrecedesSpec)

/-- 'patchbaylaw23.EntryCompares', WHERE WHAT IT READS IS OF BULK AT MOST 1048576: true; the input reads as it did. -/
def entryComparesUptoRow : OpenClaim := { program := "ytklfdkbemkommaa", sum := "084e62ce1a552da8adb04923690f0f8c6d7eb4caa362f90b883be836bfff6d1e", func := "patchbay/patchbaylaw23.EntryCompares", spec := "entryCompares", unfollowed := true, recurses := true, apart := false, narrowed := true }
def EntryComparesUptoSaid : Prop := entryComparesUptoRow.holds Try.pinned (OpenSpec.upto entryComparesSpec)

/-- 'patchbaylaw23.EntryOrder', WHERE WHAT IT READS IS OF BULK AT MOST 1048576: true; the input reads as it did. -/
def entryOrderUptoRow : OpenClaim := { program := "ytklfdkbemkommaa", sum := "084e62ce1a552da8adb04923690f0f8c6d7eb4caa362f90b883be836bfff6d1e", func := "patchbay/patchbaylaw23.EntryOrder", spec := "entryOrder", unfollowed := true, recurses := true, loops := true, apart := false, narrowed := true }
def EntryOrderUptoSaid : Prop := entryOrderUptoRow.holds Try.pinned (OpenSpec.upto entryOrderSpec)

/-- 'patchbaylaw23.EntryExact', WHERE WHAT IT READS IS OF BULK AT MOST 1048576: true; the input reads as it did. -/
def entryExactUptoRow : OpenClaim := { program := "ytklfdkbemkommaa", sum := "084e62ce1a552da8adb04923690f0f8c6d7eb4caa362f90b883be836bfff6d1e", func := "patchbay/patchbaylaw23.EntryExact", spec := "entryExact", unfollowed := true, recurses := true, loops := true, apart := false, narrowed := true }
def EntryExactUptoSaid : Prop := entryExactUptoRow.holds Try.pinned (OpenSpec.upto entryExactSpec)

end Rows
end Go.Proofs.Ytklfdkbemkommaa
