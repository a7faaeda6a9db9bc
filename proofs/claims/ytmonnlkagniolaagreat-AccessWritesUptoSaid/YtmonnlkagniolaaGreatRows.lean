/-
  NARROWER THAN 'FOR EVERY INPUT', by the rows' own cells (each row's printed sentence says how): AccessUnits: loops · AccessWrites: loops · DepsBuilds: loops · ActionChecks: loops · ActionExecutes: loops · ActionConfines: loops · ActionDepends: loops · ActionKeeps: loops · ActionComposes: loops · DepsProgram: loops.
  DERIVED. THE GIVEN ROWS OF THIS SEAT. 10 by the template 'for every input the law returns true; each argument reads behind the call as it read before'; 0 by the template 'total and deterministic' (their statements: YtmonnlkagniolaaGreatTotals.lean).
  GIVEN WITH THE SEED: the statements are not yours to turn. If you find one false, say at which input.
  Laid BY PROGRAM, IN A SANDBOX (cutbox-rows.mjs): the forced cells as the released guide's own fill.sh prints them over the translation d0352e94acaf538d… (all of the seat's roots in one cut). By AI agents, Wed Nov 11 2026. No macro, syntax, notation, axiom, sorry.
-/
import Derived.Test.YtmonnlkagniolaaGreatChecked
import GoSem.Claim
import GoSem.ClaimJoined
import GoSem.ClaimMapViews
import Derived.JoinedTies
import Derived.KernelRfl
namespace Go.Proofs.YtmonnlkagniolaaGreat
/- THE CELL 'sum', in the pinned program and in every row, IS THE sha256 OF THE DUMP (.gsa) THAT YtmonnlkagniolaaGreatProg.lean LOADS. Nothing in Lean hashes anything: it is a label: what it is worth is what the hold of that sum in a sandbox is worth. -/
noncomputable def Tryz.pinned : Pinned := { name := "ytmonnlkagniolaagreat", sum := "d0352e94acaf538d5b67b6476e0b6484d2d527be44b8ba6c3c8cbd8b3f259186", checked := Tryz.checked }
namespace Rows
def none {H : Type} : Left H := { results := [], args := [] }

/-- 'patchbaylaw31.AccessUnits': WHATEVER THE INPUT: true; the input reads as it did. -/
def accessUnitsSpec : ChangeSpec := { name := "accessUnits", fn := fun _ => fun
  | [d1, d2] => { results := [.lit (.bool true)], args := [d1, d2] }
  | _ => none }
def accessUnitsRow : OpenClaim := { program := "ytmonnlkagniolaagreat", sum := "d0352e94acaf538d5b67b6476e0b6484d2d527be44b8ba6c3c8cbd8b3f259186", func := "patchbay/patchbaylaw31.AccessUnits", spec := "accessUnits", unfollowed := true, recurses := true, loops := true, apart := false }
def AccessUnitsSaid : Prop := accessUnitsRow.holds Tryz.pinned (OpenSpec.ofChange accessUnitsSpec)

/-- ITS FALSE NEIGHBOUR: 'it returns false'. Refute it at one input. -/
def accessUnitsWrong : ChangeSpec := { name := "accessUnits", fn := fun _ => fun
  | [d1, d2] => { results := [.lit (.bool false)], args := [d1, d2] }
  | _ => none }
def AccessUnitsWrongFalsely : Prop := accessUnitsRow.holds Tryz.pinned (OpenSpec.ofChange accessUnitsWrong)

/-- 'patchbaylaw31.AccessWrites': WHATEVER THE INPUT: true; the input reads as it did. -/
def accessWritesSpec : ChangeSpec := { name := "accessWrites", fn := fun _ => fun
  | [d1, d2, d3] => { results := [.lit (.bool true)], args := [d1, d2, d3] }
  | _ => none }
def accessWritesRow : OpenClaim := { program := "ytmonnlkagniolaagreat", sum := "d0352e94acaf538d5b67b6476e0b6484d2d527be44b8ba6c3c8cbd8b3f259186", func := "patchbay/patchbaylaw31.AccessWrites", spec := "accessWrites", unfollowed := true, recurses := true, loops := true, apart := false }
def AccessWritesSaid : Prop := accessWritesRow.holds Tryz.pinned (OpenSpec.ofChange accessWritesSpec)

/-- ITS FALSE NEIGHBOUR: 'it returns false'. Refute it at one input. -/
def accessWritesWrong : ChangeSpec := { name := "accessWrites", fn := fun _ => fun
  | [d1, d2, d3] => { results := [.lit (.bool false)], args := [d1, d2, d3] }
  | _ => none }
def AccessWritesWrongFalsely : Prop := accessWritesRow.holds Tryz.pinned (OpenSpec.ofChange accessWritesWrong)

/-- 'patchbaylaw33.DepsBuilds': WHATEVER THE INPUT: true; the input reads as it did. -/
def depsBuildsSpec : ChangeSpec := { name := "depsBuilds", fn := fun _ => fun
  | [d1, d2] => { results := [.lit (.bool true)], args := [d1, d2] }
  | _ => none }
def depsBuildsRow : OpenClaim := { program := "ytmonnlkagniolaagreat", sum := "d0352e94acaf538d5b67b6476e0b6484d2d527be44b8ba6c3c8cbd8b3f259186", func := "patchbay/patchbaylaw33.DepsBuilds", spec := "depsBuilds", unfollowed := true, recurses := true, loops := true, apart := false }
def DepsBuildsSaid : Prop := depsBuildsRow.holds Tryz.pinned (OpenSpec.ofChange depsBuildsSpec)

/-- ITS FALSE NEIGHBOUR: 'it returns false'. Refute it at one input. -/
def depsBuildsWrong : ChangeSpec := { name := "depsBuilds", fn := fun _ => fun
  | [d1, d2] => { results := [.lit (.bool false)], args := [d1, d2] }
  | _ => none }
def DepsBuildsWrongFalsely : Prop := depsBuildsRow.holds Tryz.pinned (OpenSpec.ofChange depsBuildsWrong)

/-- 'patchbaylaw16.ActionChecks': WHATEVER THE INPUT: true; the input reads as it did. -/
def actionChecksSpec : ChangeSpec := { name := "actionChecks", fn := fun _ => fun
  | [d1, d2, d3] => { results := [.lit (.bool true)], args := [d1, d2, d3] }
  | _ => none }
def actionChecksRow : OpenClaim := { program := "ytmonnlkagniolaagreat", sum := "d0352e94acaf538d5b67b6476e0b6484d2d527be44b8ba6c3c8cbd8b3f259186", func := "patchbay/patchbaylaw16.ActionChecks", spec := "actionChecks", unfollowed := true, recurses := true, loops := true, apart := false }
def ActionChecksSaid : Prop := actionChecksRow.holds Tryz.pinned (OpenSpec.ofChange actionChecksSpec)

/-- ITS FALSE NEIGHBOUR: 'it returns false'. Refute it at one input. -/
def actionChecksWrong : ChangeSpec := { name := "actionChecks", fn := fun _ => fun
  | [d1, d2, d3] => { results := [.lit (.bool false)], args := [d1, d2, d3] }
  | _ => none }
def ActionChecksWrongFalsely : Prop := actionChecksRow.holds Tryz.pinned (OpenSpec.ofChange actionChecksWrong)

/-- 'patchbaylaw16.ActionExecutes': WHATEVER THE INPUT: true; the input reads as it did. -/
def actionExecutesSpec : ChangeSpec := { name := "actionExecutes", fn := fun _ => fun
  | [d] => { results := [.lit (.bool true)], args := [d] }
  | _ => none }
def actionExecutesRow : OpenClaim := { program := "ytmonnlkagniolaagreat", sum := "d0352e94acaf538d5b67b6476e0b6484d2d527be44b8ba6c3c8cbd8b3f259186", func := "patchbay/patchbaylaw16.ActionExecutes", spec := "actionExecutes", unfollowed := true, recurses := true, loops := true, apart := false }
def ActionExecutesSaid : Prop := actionExecutesRow.holds Tryz.pinned (OpenSpec.ofChange actionExecutesSpec)

/-- ITS FALSE NEIGHBOUR: 'it returns false'. Refute it at one input. -/
def actionExecutesWrong : ChangeSpec := { name := "actionExecutes", fn := fun _ => fun
  | [d] => { results := [.lit (.bool false)], args := [d] }
  | _ => none }
def ActionExecutesWrongFalsely : Prop := actionExecutesRow.holds Tryz.pinned (OpenSpec.ofChange actionExecutesWrong)

/-- 'patchbaylaw16.ActionConfines': WHATEVER THE INPUT: true; the input reads as it did. -/
def actionConfinesSpec : ChangeSpec := { name := "actionConfines", fn := fun _ => fun
  | [d] => { results := [.lit (.bool true)], args := [d] }
  | _ => none }
def actionConfinesRow : OpenClaim := { program := "ytmonnlkagniolaagreat", sum := "d0352e94acaf538d5b67b6476e0b6484d2d527be44b8ba6c3c8cbd8b3f259186", func := "patchbay/patchbaylaw16.ActionConfines", spec := "actionConfines", unfollowed := true, recurses := true, loops := true, apart := false }
def ActionConfinesSaid : Prop := actionConfinesRow.holds Tryz.pinned (OpenSpec.ofChange actionConfinesSpec)

/-- ITS FALSE NEIGHBOUR: 'it returns false'. Refute it at one input. -/
def actionConfinesWrong : ChangeSpec := { name := "actionConfines", fn := fun _ => fun
  | [d] => { results := [.lit (.bool false)], args := [d] }
  | _ => none }
def ActionConfinesWrongFalsely : Prop := actionConfinesRow.holds Tryz.pinned (OpenSpec.ofChange actionConfinesWrong)

/-- 'patchbaylaw16.ActionDepends': WHATEVER THE INPUT: true; the input reads as it did. -/
def actionDependsSpec : ChangeSpec := { name := "actionDepends", fn := fun _ => fun
  | [d1, d2, d3] => { results := [.lit (.bool true)], args := [d1, d2, d3] }
  | _ => none }
def actionDependsRow : OpenClaim := { program := "ytmonnlkagniolaagreat", sum := "d0352e94acaf538d5b67b6476e0b6484d2d527be44b8ba6c3c8cbd8b3f259186", func := "patchbay/patchbaylaw16.ActionDepends", spec := "actionDepends", unfollowed := true, recurses := true, loops := true, apart := false }
def ActionDependsSaid : Prop := actionDependsRow.holds Tryz.pinned (OpenSpec.ofChange actionDependsSpec)

/-- ITS FALSE NEIGHBOUR: 'it returns false'. Refute it at one input. -/
def actionDependsWrong : ChangeSpec := { name := "actionDepends", fn := fun _ => fun
  | [d1, d2, d3] => { results := [.lit (.bool false)], args := [d1, d2, d3] }
  | _ => none }
def ActionDependsWrongFalsely : Prop := actionDependsRow.holds Tryz.pinned (OpenSpec.ofChange actionDependsWrong)

/-- 'patchbaylaw16.ActionKeeps': WHATEVER THE INPUT: true; the input reads as it did. -/
def actionKeepsSpec : ChangeSpec := { name := "actionKeeps", fn := fun _ => fun
  | [d] => { results := [.lit (.bool true)], args := [d] }
  | _ => none }
def actionKeepsRow : OpenClaim := { program := "ytmonnlkagniolaagreat", sum := "d0352e94acaf538d5b67b6476e0b6484d2d527be44b8ba6c3c8cbd8b3f259186", func := "patchbay/patchbaylaw16.ActionKeeps", spec := "actionKeeps", unfollowed := true, recurses := true, loops := true, apart := false }
def ActionKeepsSaid : Prop := actionKeepsRow.holds Tryz.pinned (OpenSpec.ofChange actionKeepsSpec)

/-- ITS FALSE NEIGHBOUR: 'it returns false'. Refute it at one input. -/
def actionKeepsWrong : ChangeSpec := { name := "actionKeeps", fn := fun _ => fun
  | [d] => { results := [.lit (.bool false)], args := [d] }
  | _ => none }
def ActionKeepsWrongFalsely : Prop := actionKeepsRow.holds Tryz.pinned (OpenSpec.ofChange actionKeepsWrong)

/-- 'patchbaylaw16.ActionComposes': WHATEVER THE INPUT: true; the input reads as it did. -/
def actionComposesSpec : ChangeSpec := { name := "actionComposes", fn := fun _ => fun
  | [d1, d2] => { results := [.lit (.bool true)], args := [d1, d2] }
  | _ => none }
def actionComposesRow : OpenClaim := { program := "ytmonnlkagniolaagreat", sum := "d0352e94acaf538d5b67b6476e0b6484d2d527be44b8ba6c3c8cbd8b3f259186", func := "patchbay/patchbaylaw16.ActionComposes", spec := "actionComposes", unfollowed := true, recurses := true, loops := true, apart := false }
def ActionComposesSaid : Prop := actionComposesRow.holds Tryz.pinned (OpenSpec.ofChange actionComposesSpec)

/-- ITS FALSE NEIGHBOUR: 'it returns false'. Refute it at one input. -/
def actionComposesWrong : ChangeSpec := { name := "actionComposes", fn := fun _ => fun
  | [d1, d2] => { results := [.lit (.bool false)], args := [d1, d2] }
  | _ => none }
def ActionComposesWrongFalsely : Prop := actionComposesRow.holds Tryz.pinned (OpenSpec.ofChange actionComposesWrong)

/-- 'patchbaylaw33.DepsProgram': WHATEVER THE INPUT: true; the input reads as it did. -/
def depsProgramSpec : ChangeSpec := { name := "depsProgram", fn := fun _ => fun
  | [d] => { results := [.lit (.bool true)], args := [d] }
  | _ => none }
def depsProgramRow : OpenClaim := { program := "ytmonnlkagniolaagreat", sum := "d0352e94acaf538d5b67b6476e0b6484d2d527be44b8ba6c3c8cbd8b3f259186", func := "patchbay/patchbaylaw33.DepsProgram", spec := "depsProgram", unfollowed := true, recurses := true, loops := true, apart := false }
def DepsProgramSaid : Prop := depsProgramRow.holds Tryz.pinned (OpenSpec.ofChange depsProgramSpec)

/-- ITS FALSE NEIGHBOUR: 'it returns false'. Refute it at one input. -/
def depsProgramWrong : ChangeSpec := { name := "depsProgram", fn := fun _ => fun
  | [d] => { results := [.lit (.bool false)], args := [d] }
  | _ => none }
def DepsProgramWrongFalsely : Prop := depsProgramRow.holds Tryz.pinned (OpenSpec.ofChange depsProgramWrong)

/- THE SECOND FORM. 'bulk': how many values and letters a reading holds, each counted each time it is reached (what is shared counts as often as it is met; a slice's spare places count too). A statement '..UptoSaid' is the law's where the arguments, and the package variables that the reading takes, are together of bulk at most 1048576: NARROWER than '..Said'. Prove '..Said' where nothing that the law and all that it calls make is longer than what came in: it says more and counts as full. Else prove '..UptoSaid'. A law counts once. -/
mutual
def uptoBulk {H : Type} : DataW H → Nat
  | .lit (.string bytes) => bytes.length + 1
  | .lit _ => 1
  | .nil => 1
  | .ptr d => uptoBulk d + 1
  | .slice elems spare => uptoBulkAll elems + uptoBulkAll spare + 1
  | .agg parts => uptoBulkAll parts + 1
  | .iface _ d => uptoBulk d + 1
  | .map entries => uptoBulkEntries entries + 1
  | .held _ => 1
def uptoBulkAll {H : Type} : List (DataW H) → Nat
  | [] => 0
  | d :: r => uptoBulk d + uptoBulkAll r
def uptoBulkEntries {H : Type} : List (Lit × DataW H) → Nat
  | [] => 0
  | x :: r => uptoBulkEntry x + uptoBulkEntries r
def uptoBulkEntry {H : Type} : Lit × DataW H → Nat
  | (.string bytes, d) => bytes.length + uptoBulk d + 1
  | (_, d) => uptoBulk d + 1
 end
def uptoSmall : (H : Type) → List (DataW H) → Bool := fun _ ds => decide (uptoBulkAll ds ≤ 1048576)
def OpenSpec.upto (s : _root_.Go.ChangeSpec) : _root_.Go.OpenSpec := { _root_.Go.OpenSpec.ofChange s with cond := some uptoSmall }

/-- 'patchbaylaw31.AccessUnits', WHERE WHAT IT READS IS OF BULK AT MOST 1048576: true; the input reads as it did. -/
def accessUnitsUptoRow : OpenClaim := { program := "ytmonnlkagniolaagreat", sum := "d0352e94acaf538d5b67b6476e0b6484d2d527be44b8ba6c3c8cbd8b3f259186", func := "patchbay/patchbaylaw31.AccessUnits", spec := "accessUnits", unfollowed := true, recurses := true, loops := true, apart := false, narrowed := true }
def AccessUnitsUptoSaid : Prop := accessUnitsUptoRow.holds Tryz.pinned (OpenSpec.upto accessUnitsSpec)

/-- 'patchbaylaw31.AccessWrites', WHERE WHAT IT READS IS OF BULK AT MOST 1048576: true; the input reads as it did. -/
def accessWritesUptoRow : OpenClaim := { program := "ytmonnlkagniolaagreat", sum := "d0352e94acaf538d5b67b6476e0b6484d2d527be44b8ba6c3c8cbd8b3f259186", func := "patchbay/patchbaylaw31.AccessWrites", spec := "accessWrites", unfollowed := true, recurses := true, loops := true, apart := false, narrowed := true }
def AccessWritesUptoSaid : Prop := accessWritesUptoRow.holds Tryz.pinned (OpenSpec.upto accessWritesSpec)

/-- 'patchbaylaw33.DepsBuilds', WHERE WHAT IT READS IS OF BULK AT MOST 1048576: true; the input reads as it did. -/
def depsBuildsUptoRow : OpenClaim := { program := "ytmonnlkagniolaagreat", sum := "d0352e94acaf538d5b67b6476e0b6484d2d527be44b8ba6c3c8cbd8b3f259186", func := "patchbay/patchbaylaw33.DepsBuilds", spec := "depsBuilds", unfollowed := true, recurses := true, loops := true, apart := false, narrowed := true }
def DepsBuildsUptoSaid : Prop := depsBuildsUptoRow.holds Tryz.pinned (OpenSpec.upto depsBuildsSpec)

/-- 'patchbaylaw16.ActionChecks', WHERE WHAT IT READS IS OF BULK AT MOST 1048576: true; the input reads as it did. -/
def actionChecksUptoRow : OpenClaim := { program := "ytmonnlkagniolaagreat", sum := "d0352e94acaf538d5b67b6476e0b6484d2d527be44b8ba6c3c8cbd8b3f259186", func := "patchbay/patchbaylaw16.ActionChecks", spec := "actionChecks", unfollowed := true, recurses := true, loops := true, apart := false, narrowed := true }
def ActionChecksUptoSaid : Prop := actionChecksUptoRow.holds Tryz.pinned (OpenSpec.upto actionChecksSpec)

/-- 'patchbaylaw16.ActionExecutes', WHERE WHAT IT READS IS OF BULK AT MOST 1048576: true; the input reads as it did. -/
def actionExecutesUptoRow : OpenClaim := { program := "ytmonnlkagniolaagreat", sum := "d0352e94acaf538d5b67b6476e0b6484d2d527be44b8ba6c3c8cbd8b3f259186", func := "patchbay/patchbaylaw16.ActionExecutes", spec := "actionExecutes", unfollowed := true, recurses := true, loops := true, apart := false, narrowed := true }
def ActionExecutesUptoSaid : Prop := actionExecutesUptoRow.holds Tryz.pinned (OpenSpec.upto actionExecutesSpec)

/-- 'patchbaylaw16.ActionConfines', WHERE WHAT IT READS IS OF BULK AT MOST 1048576: true; the input reads as it did. -/
def actionConfinesUptoRow : OpenClaim := { program := "ytmonnlkagniolaagreat", sum := "d0352e94acaf538d5b67b6476e0b6484d2d527be44b8ba6c3c8cbd8b3f259186", func := "patchbay/patchbaylaw16.ActionConfines", spec := "actionConfines", unfollowed := true, recurses := true, loops := true, apart := false, narrowed := true }
def ActionConfinesUptoSaid : Prop := actionConfinesUptoRow.holds Tryz.pinned (OpenSpec.upto actionConfinesSpec)

/-- 'patchbaylaw16.ActionDepends', WHERE WHAT IT READS IS OF BULK AT MOST 1048576: true; the input reads as it did. -/
def actionDependsUptoRow : OpenClaim := { program := "ytmonnlkagniolaagreat", sum := "d0352e94acaf538d5b67b6476e0b6484d2d527be44b8ba6c3c8cbd8b3f259186", func := "patchbay/patchbaylaw16.ActionDepends", spec := "actionDepends", unfollowed := true, recurses := true, loops := true, apart := false, narrowed := true }
def ActionDependsUptoSaid : Prop := actionDependsUptoRow.holds Tryz.pinned (OpenSpec.upto actionDependsSpec)

/-- 'patchbaylaw16.ActionKeeps', WHERE WHAT IT READS IS OF BULK AT MOST 1048576: true; the input reads as it did. -/
def actionKeepsUptoRow : OpenClaim := { program := "ytmonnlkagniolaagreat", sum := "d0352e94acaf538d5b67b6476e0b6484d2d527be44b8ba6c3c8cbd8b3f259186", func := "patchbay/patchbaylaw16.ActionKeeps", spec := "actionKeeps", unfollowed := true, recurses := true, loops := true, apart := false, narrowed := true }
def ActionKeepsUptoSaid : Prop := actionKeepsUptoRow.holds Tryz.pinned (OpenSpec.upto actionKeepsSpec)

/-- 'patchbaylaw16.ActionComposes', WHERE WHAT IT READS IS OF BULK AT MOST 1048576: true; the input reads as it did. -/
def actionComposesUptoRow : OpenClaim := { program := "ytmonnlkagniolaagreat", sum := "d0352e94acaf538d5b67b6476e0b6484d2d527be44b8ba6c3c8cbd8b3f259186", func := "patchbay/patchbaylaw16.ActionComposes", spec := "actionComposes", unfollowed := true, recurses := true, loops := true, apart := false, narrowed := true }
def ActionComposesUptoSaid : Prop := actionComposesUptoRow.holds Tryz.pinned (OpenSpec.upto actionComposesSpec)

/-- 'patchbaylaw33.DepsProgram', WHERE WHAT IT READS IS OF BULK AT MOST 1048576: true; the input reads as it did. -/
def depsProgramUptoRow : OpenClaim := { program := "ytmonnlkagniolaagreat", sum := "d0352e94acaf538d5b67b6476e0b6484d2d527be44b8ba6c3c8cbd8b3f259186", func := "patchbay/patchbaylaw33.DepsProgram", spec := "depsProgram", unfollowed := true, recurses := true, loops := true, apart := false, narrowed := true }
def DepsProgramUptoSaid : Prop := depsProgramUptoRow.holds Tryz.pinned (OpenSpec.upto depsProgramSpec)

end Rows
end Go.Proofs.YtmonnlkagniolaaGreat
