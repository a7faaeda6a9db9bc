/-
  NARROWER THAN 'FOR EVERY INPUT', by the rows' own cells (each row's printed sentence says how): ControlChecks: loops · ControlQueries: loops · UnitsBuild: loops · UnitsOrder: loops · UnitsWalk: loops · ControlWalks: loops · ControlOrder: loops · ControlNil: loops.
  DERIVED. THE GIVEN ROWS OF THIS SEAT. 10 by the template 'for every input the law returns true; each argument reads behind the call as it read before'; 0 by the template 'total and deterministic' (their statements: YtkgnjpoafilicaaTotals.lean).
  GIVEN WITH THE SEED: the statements are not yours to turn. If you find one false, say at which input.
  Laid BY PROGRAM, IN A SANDBOX (cutbox-rows.mjs): the forced cells as the released guide's own fill.sh prints them over the translation 318066764356add2… (all of the seat's roots in one cut). By AI agents, Wed Nov 11 2026. No macro, syntax, notation, axiom, sorry.
-/
import Derived.Test.YtkgnjpoafilicaaChecked
import GoSem.Claim
import GoSem.ClaimJoined
import GoSem.ClaimMapViews
import Derived.JoinedTies
import Derived.KernelRfl
namespace Go.Proofs.Ytkgnjpoafilicaa
/- THE CELL 'sum', in the pinned program and in every row, IS THE sha256 OF THE DUMP (.gsa) THAT YtkgnjpoafilicaaProg.lean LOADS. Nothing in Lean hashes anything: it is a label: what it is worth is what the hold of that sum in a sandbox is worth. -/
noncomputable def Try.pinned : Pinned := { name := "ytkgnjpoafilicaa", sum := "318066764356add2664ce1eefc95e895b8aac751e64cf4de5e51c195d1bba6f3", checked := Try.checked }
namespace Rows
def none {H : Type} : Left H := { results := [], args := [] }

/-- 'patchbaylaw20.ControlChecks': WHATEVER THE INPUT: true; the input reads as it did. -/
def controlChecksSpec : ChangeSpec := { name := "controlChecks", fn := fun _ => fun
  | [d] => { results := [.lit (.bool true)], args := [d] }
  | _ => none }
def controlChecksRow : OpenClaim := { program := "ytkgnjpoafilicaa", sum := "318066764356add2664ce1eefc95e895b8aac751e64cf4de5e51c195d1bba6f3", func := "patchbay/patchbaylaw20.ControlChecks", spec := "controlChecks", unfollowed := true, recurses := true, loops := true, apart := false }
def ControlChecksSaid : Prop := controlChecksRow.holds Try.pinned (OpenSpec.ofChange controlChecksSpec)

/-- ITS FALSE NEIGHBOUR: 'it returns false'. Refute it at one input. -/
def controlChecksWrong : ChangeSpec := { name := "controlChecks", fn := fun _ => fun
  | [d] => { results := [.lit (.bool false)], args := [d] }
  | _ => none }
def ControlChecksWrongFalsely : Prop := controlChecksRow.holds Try.pinned (OpenSpec.ofChange controlChecksWrong)

/-- 'patchbaylaw20.ControlQueries': WHATEVER THE INPUT: true; the input reads as it did. -/
def controlQueriesSpec : ChangeSpec := { name := "controlQueries", fn := fun _ => fun
  | [d1, d2] => { results := [.lit (.bool true)], args := [d1, d2] }
  | _ => none }
def controlQueriesRow : OpenClaim := { program := "ytkgnjpoafilicaa", sum := "318066764356add2664ce1eefc95e895b8aac751e64cf4de5e51c195d1bba6f3", func := "patchbay/patchbaylaw20.ControlQueries", spec := "controlQueries", unfollowed := true, recurses := true, loops := true, apart := false }
def ControlQueriesSaid : Prop := controlQueriesRow.holds Try.pinned (OpenSpec.ofChange controlQueriesSpec)

/-- ITS FALSE NEIGHBOUR: 'it returns false'. Refute it at one input. -/
def controlQueriesWrong : ChangeSpec := { name := "controlQueries", fn := fun _ => fun
  | [d1, d2] => { results := [.lit (.bool false)], args := [d1, d2] }
  | _ => none }
def ControlQueriesWrongFalsely : Prop := controlQueriesRow.holds Try.pinned (OpenSpec.ofChange controlQueriesWrong)

/-- 'patchbaylaw32.UnitsBuild': WHATEVER THE INPUT: true; the input reads as it did. -/
def unitsBuildSpec : ChangeSpec := { name := "unitsBuild", fn := fun _ => fun
  | [d] => { results := [.lit (.bool true)], args := [d] }
  | _ => none }
def unitsBuildRow : OpenClaim := { program := "ytkgnjpoafilicaa", sum := "318066764356add2664ce1eefc95e895b8aac751e64cf4de5e51c195d1bba6f3", func := "patchbay/patchbaylaw32.UnitsBuild", spec := "unitsBuild", unfollowed := true, recurses := true, loops := true, apart := false }
def UnitsBuildSaid : Prop := unitsBuildRow.holds Try.pinned (OpenSpec.ofChange unitsBuildSpec)

/-- ITS FALSE NEIGHBOUR: 'it returns false'. Refute it at one input. -/
def unitsBuildWrong : ChangeSpec := { name := "unitsBuild", fn := fun _ => fun
  | [d] => { results := [.lit (.bool false)], args := [d] }
  | _ => none }
def UnitsBuildWrongFalsely : Prop := unitsBuildRow.holds Try.pinned (OpenSpec.ofChange unitsBuildWrong)

/-- 'patchbaylaw32.UnitsGuard': WHATEVER THE INPUT: true; the input reads as it did. -/
def unitsGuardSpec : ChangeSpec := { name := "unitsGuard", fn := fun _ => fun
  | [d1, d2, d3] => { results := [.lit (.bool true)], args := [d1, d2, d3] }
  | _ => none }
def unitsGuardRow : OpenClaim := { program := "ytkgnjpoafilicaa", sum := "318066764356add2664ce1eefc95e895b8aac751e64cf4de5e51c195d1bba6f3", func := "patchbay/patchbaylaw32.UnitsGuard", spec := "unitsGuard", unfollowed := true, recurses := true, apart := false }
def UnitsGuardSaid : Prop := unitsGuardRow.holds Try.pinned (OpenSpec.ofChange unitsGuardSpec)

/-- ITS FALSE NEIGHBOUR: 'it returns false'. Refute it at one input. -/
def unitsGuardWrong : ChangeSpec := { name := "unitsGuard", fn := fun _ => fun
  | [d1, d2, d3] => { results := [.lit (.bool false)], args := [d1, d2, d3] }
  | _ => none }
def UnitsGuardWrongFalsely : Prop := unitsGuardRow.holds Try.pinned (OpenSpec.ofChange unitsGuardWrong)

/-- 'patchbaylaw32.UnitsExclude': WHATEVER THE INPUT: true; the input reads as it did. -/
def unitsExcludeSpec : ChangeSpec := { name := "unitsExclude", fn := fun _ => fun
  | [d1, d2, d3] => { results := [.lit (.bool true)], args := [d1, d2, d3] }
  | _ => none }
def unitsExcludeRow : OpenClaim := { program := "ytkgnjpoafilicaa", sum := "318066764356add2664ce1eefc95e895b8aac751e64cf4de5e51c195d1bba6f3", func := "patchbay/patchbaylaw32.UnitsExclude", spec := "unitsExclude", unfollowed := true, recurses := true, apart := false }
def UnitsExcludeSaid : Prop := unitsExcludeRow.holds Try.pinned (OpenSpec.ofChange unitsExcludeSpec)

/-- ITS FALSE NEIGHBOUR: 'it returns false'. Refute it at one input. -/
def unitsExcludeWrong : ChangeSpec := { name := "unitsExclude", fn := fun _ => fun
  | [d1, d2, d3] => { results := [.lit (.bool false)], args := [d1, d2, d3] }
  | _ => none }
def UnitsExcludeWrongFalsely : Prop := unitsExcludeRow.holds Try.pinned (OpenSpec.ofChange unitsExcludeWrong)

/-- 'patchbaylaw32.UnitsOrder': WHATEVER THE INPUT: true; the input reads as it did. -/
def unitsOrderSpec : ChangeSpec := { name := "unitsOrder", fn := fun _ => fun
  | [d] => { results := [.lit (.bool true)], args := [d] }
  | _ => none }
def unitsOrderRow : OpenClaim := { program := "ytkgnjpoafilicaa", sum := "318066764356add2664ce1eefc95e895b8aac751e64cf4de5e51c195d1bba6f3", func := "patchbay/patchbaylaw32.UnitsOrder", spec := "unitsOrder", unfollowed := true, recurses := true, loops := true, apart := false }
def UnitsOrderSaid : Prop := unitsOrderRow.holds Try.pinned (OpenSpec.ofChange unitsOrderSpec)

/-- ITS FALSE NEIGHBOUR: 'it returns false'. Refute it at one input. -/
def unitsOrderWrong : ChangeSpec := { name := "unitsOrder", fn := fun _ => fun
  | [d] => { results := [.lit (.bool false)], args := [d] }
  | _ => none }
def UnitsOrderWrongFalsely : Prop := unitsOrderRow.holds Try.pinned (OpenSpec.ofChange unitsOrderWrong)

/-- 'patchbaylaw32.UnitsWalk': WHATEVER THE INPUT: true; the input reads as it did. -/
def unitsWalkSpec : ChangeSpec := { name := "unitsWalk", fn := fun _ => fun
  | [d1, d2] => { results := [.lit (.bool true)], args := [d1, d2] }
  | _ => none }
def unitsWalkRow : OpenClaim := { program := "ytkgnjpoafilicaa", sum := "318066764356add2664ce1eefc95e895b8aac751e64cf4de5e51c195d1bba6f3", func := "patchbay/patchbaylaw32.UnitsWalk", spec := "unitsWalk", unfollowed := true, recurses := true, loops := true, apart := false }
def UnitsWalkSaid : Prop := unitsWalkRow.holds Try.pinned (OpenSpec.ofChange unitsWalkSpec)

/-- ITS FALSE NEIGHBOUR: 'it returns false'. Refute it at one input. -/
def unitsWalkWrong : ChangeSpec := { name := "unitsWalk", fn := fun _ => fun
  | [d1, d2] => { results := [.lit (.bool false)], args := [d1, d2] }
  | _ => none }
def UnitsWalkWrongFalsely : Prop := unitsWalkRow.holds Try.pinned (OpenSpec.ofChange unitsWalkWrong)

/-- 'patchbaylaw20.ControlWalks': WHATEVER THE INPUT: true; the input reads as it did. -/
def controlWalksSpec : ChangeSpec := { name := "controlWalks", fn := fun _ => fun
  | [d1, d2] => { results := [.lit (.bool true)], args := [d1, d2] }
  | _ => none }
def controlWalksRow : OpenClaim := { program := "ytkgnjpoafilicaa", sum := "318066764356add2664ce1eefc95e895b8aac751e64cf4de5e51c195d1bba6f3", func := "patchbay/patchbaylaw20.ControlWalks", spec := "controlWalks", unfollowed := true, recurses := true, loops := true, apart := false }
def ControlWalksSaid : Prop := controlWalksRow.holds Try.pinned (OpenSpec.ofChange controlWalksSpec)

/-- ITS FALSE NEIGHBOUR: 'it returns false'. Refute it at one input. -/
def controlWalksWrong : ChangeSpec := { name := "controlWalks", fn := fun _ => fun
  | [d1, d2] => { results := [.lit (.bool false)], args := [d1, d2] }
  | _ => none }
def ControlWalksWrongFalsely : Prop := controlWalksRow.holds Try.pinned (OpenSpec.ofChange controlWalksWrong)

/-- 'patchbaylaw20.ControlOrder': WHATEVER THE INPUT: true; the input reads as it did. -/
def controlOrderSpec : ChangeSpec := { name := "controlOrder", fn := fun _ => fun
  | [d1, d2] => { results := [.lit (.bool true)], args := [d1, d2] }
  | _ => none }
def controlOrderRow : OpenClaim := { program := "ytkgnjpoafilicaa", sum := "318066764356add2664ce1eefc95e895b8aac751e64cf4de5e51c195d1bba6f3", func := "patchbay/patchbaylaw20.ControlOrder", spec := "controlOrder", unfollowed := true, recurses := true, loops := true, apart := false }
def ControlOrderSaid : Prop := controlOrderRow.holds Try.pinned (OpenSpec.ofChange controlOrderSpec)

/-- ITS FALSE NEIGHBOUR: 'it returns false'. Refute it at one input. -/
def controlOrderWrong : ChangeSpec := { name := "controlOrder", fn := fun _ => fun
  | [d1, d2] => { results := [.lit (.bool false)], args := [d1, d2] }
  | _ => none }
def ControlOrderWrongFalsely : Prop := controlOrderRow.holds Try.pinned (OpenSpec.ofChange controlOrderWrong)

/-- 'patchbaylaw20.ControlNil': WHATEVER THE INPUT: true; the input reads as it did. -/
def controlNilSpec : ChangeSpec := { name := "controlNil", fn := fun _ => fun
  | [d1, d2] => { results := [.lit (.bool true)], args := [d1, d2] }
  | _ => none }
def controlNilRow : OpenClaim := { program := "ytkgnjpoafilicaa", sum := "318066764356add2664ce1eefc95e895b8aac751e64cf4de5e51c195d1bba6f3", func := "patchbay/patchbaylaw20.ControlNil", spec := "controlNil", unfollowed := true, recurses := true, loops := true, apart := false }
def ControlNilSaid : Prop := controlNilRow.holds Try.pinned (OpenSpec.ofChange controlNilSpec)

/-- ITS FALSE NEIGHBOUR: 'it returns false'. Refute it at one input. -/
def controlNilWrong : ChangeSpec := { name := "controlNil", fn := fun _ => fun
  | [d1, d2] => { results := [.lit (.bool false)], args := [d1, d2] }
  | _ => none }
def ControlNilWrongFalsely : Prop := controlNilRow.holds Try.pinned (OpenSpec.ofChange controlNilWrong)

/- THE SECOND FORM. 'bulk': how many values and letters a reading holds, each counted each time it is reached (what is shared counts as often as it is met; a slice's spare places count too). A statement '..UptoSaid' is the law's where the arguments, and the package variables that the reading takes, are together of bulk at most 1048576: NARROWER than '..Said'. Prove '..Said' where nothing that the law and all that it calls make is longer than what came in: it says more and counts as full. Else prove '..UptoSaid'. A law counts once. -/
mutual
def uptoBulk {H : Type} : DataW H → Nat
  | .lit (.string bytes) => bytes.length + 1
  | .lit _ => 1
  | .nil => 1
  | .ptr d => uptoBulk d + 1
  | .slice elems spare => uptoBulkAll elems + uptoBulkAll spare + 1
  | .agg parts => uptoBulkAll parts + 1
  | .iface _ d => uptoBulk d + 1
  | .map entries => uptoBulkEntries entries + 1
  | .held _ => 1
def uptoBulkAll {H : Type} : List (DataW H) → Nat
  | [] => 0
  | d :: r => uptoBulk d + uptoBulkAll r
def uptoBulkEntries {H : Type} : List (Lit × DataW H) → Nat
  | [] => 0
  | x :: r => uptoBulkEntry x + uptoBulkEntries r
def uptoBulkEntry {H : Type} : Lit × DataW H → Nat
  | (.string bytes, d) => bytes.length + uptoBulk d + 1
  | (_, d) => uptoBulk d + 1
 end
def uptoSmall : (H : Type) → List (DataW H) → Bool := fun _ ds => decide (uptoBulkAll ds ≤ 1048576)
def OpenSpec.upto (s : _root_.Go.ChangeSpec) : _root_.Go.OpenSpec := { _root_.Go.OpenSpec.ofChange s with cond := some uptoSmall }

/-- 'patchbaylaw20.ControlChecks', WHERE WHAT IT READS IS OF BULK AT MOST 1048576: true; the input reads as it did. -/
def controlChecksUptoRow : OpenClaim := { program := "ytkgnjpoafilicaa", sum := "318066764356add2664ce1eefc95e895b8aac751e64cf4de5e51c195d1bba6f3", func := "patchbay/patchbaylaw20.ControlChecks", spec := "controlChecks", unfollowed := true, recurses := true, loops := true, apart := false, narrowed := true }
def ControlChecksUptoSaid : Prop := controlChecksUptoRow.holds Try.pinned (OpenSpec.upto controlChecksSpec)

/-- 'patchbaylaw20.ControlQueries', WHERE WHAT IT READS IS OF BULK AT MOST 1048576: true; the input reads as it did. -/
def controlQueriesUptoRow : OpenClaim := { program := "ytkgnjpoafilicaa", sum := "318066764356add2664ce1eefc95e895b8aac751e64cf4de5e51c195d1bba6f3", func := "patchbay/patchbaylaw20.ControlQueries", spec := "controlQueries", unfollowed := true, recurses := true, loops := true, apart := false, narrowed := true }
def ControlQueriesUptoSaid : Prop := controlQueriesUptoRow.holds Try.pinned (OpenSpec.upto controlQueriesSpec)

/-- 'patchbaylaw32.UnitsBuild', WHERE WHAT IT READS IS OF BULK AT MOST 1048576: true; the input reads as it did. -/
def unitsBuildUptoRow : OpenClaim := { program := "ytkgnjpoafilicaa", sum := "318066764356add2664ce1eefc95e895b8aac751e64cf4de5e51c195d1bba6f3", func := "patchbay/patchbaylaw32.UnitsBuild", spec := "unitsBuild", unfollowed := true, recurses := true, loops := true, apart := false, narrowed := true }
def UnitsBuildUptoSaid : Prop := unitsBuildUptoRow.holds Try.pinned (OpenSpec.upto unitsBuildSpec)

/-- 'patchbaylaw32.UnitsGuard', WHERE WHAT IT READS IS OF BULK AT MOST 1048576: true; the input reads as it did. -/
def unitsGuardUptoRow : OpenClaim := { program := "ytkgnjpoafilicaa", sum := "318066764356add2664ce1eefc95e895b8aac751e64cf4de5e51c195d1bba6f3", func := "patchbay/patchbaylaw32.UnitsGuard", spec := "unitsGuard", unfollowed := true, recurses := true, apart := false, narrowed := true }
def UnitsGuardUptoSaid : Prop := unitsGuardUptoRow.holds Try.pinned (OpenSpec.upto unitsGuardSpec)

/-- 'patchbaylaw32.UnitsExclude', WHERE WHAT IT READS IS OF BULK AT MOST 1048576: true; the input reads as it did. -/
def unitsExcludeUptoRow : OpenClaim := { program := "ytkgnjpoafilicaa", sum := "318066764356add2664ce1eefc95e895b8aac751e64cf4de5e51c195d1bba6f3", func := "patchbay/patchbaylaw32.UnitsExclude", spec := "unitsExclude", unfollowed := true, recurses := true, apart := false, narrowed := true }
def UnitsExcludeUptoSaid : Prop := unitsExcludeUptoRow.holds Try.pinned (OpenSpec.upto unitsExcludeSpec)

/-- 'patchbaylaw32.UnitsOrder', WHERE WHAT IT READS IS OF BULK AT MOST 1048576: true; the input reads as it did. -/
def unitsOrderUptoRow : OpenClaim := { program := "ytkgnjpoafilicaa", sum := "318066764356add2664ce1eefc95e895b8aac751e64cf4de5e51c195d1bba6f3", func := "patchbay/patchbaylaw32.UnitsOrder", spec := "unitsOrder", unfollowed := true, recurses := true, loops := true, apart := false, narrowed := true }
def UnitsOrderUptoSaid : Prop := unitsOrderUptoRow.holds Try.pinned (OpenSpec.upto unitsOrderSpec)

/-- 'patchbaylaw32.UnitsWalk', WHERE WHAT IT READS IS OF BULK AT MOST 1048576: true; the input reads as it did. -/
def unitsWalkUptoRow : OpenClaim := { program := "ytkgnjpoafilicaa", sum := "318066764356add2664ce1eefc95e895b8aac751e64cf4de5e51c195d1bba6f3", func := "patchbay/patchbaylaw32.UnitsWalk", spec := "unitsWalk", unfollowed := true, recurses := true, loops := true, apart := false, narrowed := true }
def UnitsWalkUptoSaid : Prop := unitsWalkUptoRow.holds Try.pinned (OpenSpec.upto unitsWalkSpec)

/-- 'patchbaylaw20.ControlWalks', WHERE WHAT IT READS IS OF BULK AT MOST 1048576: true; the input reads as it did. -/
def controlWalksUptoRow : OpenClaim := { program := "ytkgnjpoafilicaa", sum := "318066764356add2664ce1eefc95e895b8aac751e64cf4de5e51c195d1bba6f3", func := "patchbay/patchbaylaw20.ControlWalks", spec := "controlWalks", unfollowed := true, recurses := true, loops := true, apart := false, narrowed := true }
def ControlWalksUptoSaid : Prop := controlWalksUptoRow.holds Try.pinned (OpenSpec.upto controlWalksSpec)

/-- 'patchbaylaw20.ControlOrder', WHERE WHAT IT READS IS OF BULK AT MOST 1048576: true; the input reads as it did. -/
def controlOrderUptoRow : OpenClaim := { program := "ytkgnjpoafilicaa", sum := "318066764356add2664ce1eefc95e895b8aac751e64cf4de5e51c195d1bba6f3", func := "patchbay/patchbaylaw20.ControlOrder", spec := "controlOrder", unfollowed := true, recurses := true, loops := true, apart := false, narrowed := true }
def ControlOrderUptoSaid : Prop := controlOrderUptoRow.holds Try.pinned (OpenSpec.upto controlOrderSpec)

/-- 'patchbaylaw20.ControlNil', WHERE WHAT IT READS IS OF BULK AT MOST 1048576: true; the input reads as it did. -/
def controlNilUptoRow : OpenClaim := { program := "ytkgnjpoafilicaa", sum := "318066764356add2664ce1eefc95e895b8aac751e64cf4de5e51c195d1bba6f3", func := "patchbay/patchbaylaw20.ControlNil", spec := "controlNil", unfollowed := true, recurses := true, loops := true, apart := false, narrowed := true }
def ControlNilUptoSaid : Prop := controlNilUptoRow.holds Try.pinned (OpenSpec.upto controlNilSpec)

end Rows
end Go.Proofs.Ytkgnjpoafilicaa
