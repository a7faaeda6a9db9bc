/-
  NARROWER THAN 'FOR EVERY INPUT', by the rows' own cells (each row's printed sentence says how): LookupBest: loops · LookupFinds: loops · LookupOrder: loops · LookupShadowed: loops · LookupNever: loops · LookupComplete: loops.
  DERIVED. THE GIVEN ROWS OF THIS SEAT. 7 by the template 'for every input the law returns true; each argument reads behind the call as it read before'; 0 by the template 'total and deterministic' (their statements: YthdnpgpnodgicaaGreatTotals.lean).
  GIVEN WITH THE SEED: the statements are not yours to turn. If you find one false, say at which input.
  Laid BY PROGRAM, IN A SANDBOX (cutbox-rows.mjs): the forced cells as the released guide's own fill.sh prints them over the translation 6bc54eb32f6d0687… (all of the seat's roots in one cut). By AI agents, Wed Nov 11 2026. No macro, syntax, notation, axiom, sorry.
-/
import Derived.Test.YthdnpgpnodgicaaGreatChecked
import GoSem.Claim
import GoSem.ClaimJoined
import GoSem.ClaimMapViews
import Derived.JoinedTies
import Derived.KernelRfl
namespace Go.Proofs.YthdnpgpnodgicaaGreat
/- THE CELL 'sum', in the pinned program and in every row, IS THE sha256 OF THE DUMP (.gsa) THAT YthdnpgpnodgicaaGreatProg.lean LOADS. Nothing in Lean hashes anything: it is a label: what it is worth is what the hold of that sum in a sandbox is worth. -/
noncomputable def Tryz.pinned : Pinned := { name := "ythdnpgpnodgicaagreat", sum := "6bc54eb32f6d06876710a6843ab59b8982e1ee9274fcb4a3141cfdc2d63ed149", checked := Tryz.checked }
namespace Rows
def none {H : Type} : Left H := { results := [], args := [] }

/-- 'patchbaylaw24.LookupBest': WHATEVER THE INPUT: true; the input reads as it did. -/
def lookupBestSpec : ChangeSpec := { name := "lookupBest", fn := fun _ => fun
  | [d] => { results := [.lit (.bool true)], args := [d] }
  | _ => none }
def lookupBestRow : OpenClaim := { program := "ythdnpgpnodgicaagreat", sum := "6bc54eb32f6d06876710a6843ab59b8982e1ee9274fcb4a3141cfdc2d63ed149", func := "patchbay/patchbaylaw24.LookupBest", spec := "lookupBest", unfollowed := true, recurses := true, loops := true, plainKeys := false, apart := false }
def LookupBestSaid : Prop := lookupBestRow.holds Tryz.pinned (OpenSpec.ofChange lookupBestSpec)

/-- ITS FALSE NEIGHBOUR: 'it returns false'. Refute it at one input. -/
def lookupBestWrong : ChangeSpec := { name := "lookupBest", fn := fun _ => fun
  | [d] => { results := [.lit (.bool false)], args := [d] }
  | _ => none }
def LookupBestWrongFalsely : Prop := lookupBestRow.holds Tryz.pinned (OpenSpec.ofChange lookupBestWrong)

/-- 'patchbaylaw24.LookupFinds': WHATEVER THE INPUT: true; the input reads as it did. -/
def lookupFindsSpec : ChangeSpec := { name := "lookupFinds", fn := fun _ => fun
  | [d1, d2] => { results := [.lit (.bool true)], args := [d1, d2] }
  | _ => none }
def lookupFindsRow : OpenClaim := { program := "ythdnpgpnodgicaagreat", sum := "6bc54eb32f6d06876710a6843ab59b8982e1ee9274fcb4a3141cfdc2d63ed149", func := "patchbay/patchbaylaw24.LookupFinds", spec := "lookupFinds", unfollowed := true, recurses := true, loops := true, plainKeys := false, apart := false }
def LookupFindsSaid : Prop := lookupFindsRow.holds Tryz.pinned (OpenSpec.ofChange lookupFindsSpec)

/-- ITS FALSE NEIGHBOUR: 'it returns false'. Refute it at one input. -/
def lookupFindsWrong : ChangeSpec := { name := "lookupFinds", fn := fun _ => fun
  | [d1, d2] => { results := [.lit (.bool false)], args := [d1, d2] }
  | _ => none }
def LookupFindsWrongFalsely : Prop := lookupFindsRow.holds Tryz.pinned (OpenSpec.ofChange lookupFindsWrong)

/-- 'patchbaylaw24.LookupOrder': WHATEVER THE INPUT: true; the input reads as it did. -/
def lookupOrderSpec : ChangeSpec := { name := "lookupOrder", fn := fun _ => fun
  | [d] => { results := [.lit (.bool true)], args := [d] }
  | _ => none }
def lookupOrderRow : OpenClaim := { program := "ythdnpgpnodgicaagreat", sum := "6bc54eb32f6d06876710a6843ab59b8982e1ee9274fcb4a3141cfdc2d63ed149", func := "patchbay/patchbaylaw24.LookupOrder", spec := "lookupOrder", unfollowed := true, recurses := true, loops := true, plainKeys := false, apart := false }
def LookupOrderSaid : Prop := lookupOrderRow.holds Tryz.pinned (OpenSpec.ofChange lookupOrderSpec)

/-- ITS FALSE NEIGHBOUR: 'it returns false'. Refute it at one input. -/
def lookupOrderWrong : ChangeSpec := { name := "lookupOrder", fn := fun _ => fun
  | [d] => { results := [.lit (.bool false)], args := [d] }
  | _ => none }
def LookupOrderWrongFalsely : Prop := lookupOrderRow.holds Tryz.pinned (OpenSpec.ofChange lookupOrderWrong)

/-- 'patchbaylaw24.LookupShadowed': WHATEVER THE INPUT: true; the input reads as it did. -/
def lookupShadowedSpec : ChangeSpec := { name := "lookupShadowed", fn := fun _ => fun
  | [d] => { results := [.lit (.bool true)], args := [d] }
  | _ => none }
def lookupShadowedRow : OpenClaim := { program := "ythdnpgpnodgicaagreat", sum := "6bc54eb32f6d06876710a6843ab59b8982e1ee9274fcb4a3141cfdc2d63ed149", func := "patchbay/patchbaylaw24.LookupShadowed", spec := "lookupShadowed", unfollowed := true, recurses := true, loops := true, plainKeys := false, apart := false }
def LookupShadowedSaid : Prop := lookupShadowedRow.holds Tryz.pinned (OpenSpec.ofChange lookupShadowedSpec)

/-- ITS FALSE NEIGHBOUR: 'it returns false'. Refute it at one input. -/
def lookupShadowedWrong : ChangeSpec := { name := "lookupShadowed", fn := fun _ => fun
  | [d] => { results := [.lit (.bool false)], args := [d] }
  | _ => none }
def LookupShadowedWrongFalsely : Prop := lookupShadowedRow.holds Tryz.pinned (OpenSpec.ofChange lookupShadowedWrong)

/-- 'patchbaylaw24.LookupNever': WHATEVER THE INPUT: true; the input reads as it did. -/
def lookupNeverSpec : ChangeSpec := { name := "lookupNever", fn := fun _ => fun
  | [d] => { results := [.lit (.bool true)], args := [d] }
  | _ => none }
def lookupNeverRow : OpenClaim := { program := "ythdnpgpnodgicaagreat", sum := "6bc54eb32f6d06876710a6843ab59b8982e1ee9274fcb4a3141cfdc2d63ed149", func := "patchbay/patchbaylaw24.LookupNever", spec := "lookupNever", unfollowed := true, recurses := true, loops := true, plainKeys := false, apart := false }
def LookupNeverSaid : Prop := lookupNeverRow.holds Tryz.pinned (OpenSpec.ofChange lookupNeverSpec)

/-- ITS FALSE NEIGHBOUR: 'it returns false'. Refute it at one input. -/
def lookupNeverWrong : ChangeSpec := { name := "lookupNever", fn := fun _ => fun
  | [d] => { results := [.lit (.bool false)], args := [d] }
  | _ => none }
def LookupNeverWrongFalsely : Prop := lookupNeverRow.holds Tryz.pinned (OpenSpec.ofChange lookupNeverWrong)

/-- 'patchbaylaw24.LookupComplete': WHATEVER THE INPUT: true; the input reads as it did. -/
def lookupCompleteSpec : ChangeSpec := { name := "lookupComplete", fn := fun _ => fun
  | [d] => { results := [.lit (.bool true)], args := [d] }
  | _ => none }
def lookupCompleteRow : OpenClaim := { program := "ythdnpgpnodgicaagreat", sum := "6bc54eb32f6d06876710a6843ab59b8982e1ee9274fcb4a3141cfdc2d63ed149", func := "patchbay/patchbaylaw24.LookupComplete", spec := "lookupComplete", unfollowed := true, recurses := true, loops := true, plainKeys := false, apart := false }
def LookupCompleteSaid : Prop := lookupCompleteRow.holds Tryz.pinned (OpenSpec.ofChange lookupCompleteSpec)

/-- ITS FALSE NEIGHBOUR: 'it returns false'. Refute it at one input. -/
def lookupCompleteWrong : ChangeSpec := { name := "lookupComplete", fn := fun _ => fun
  | [d] => { results := [.lit (.bool false)], args := [d] }
  | _ => none }
def LookupCompleteWrongFalsely : Prop := lookupCompleteRow.holds Tryz.pinned (OpenSpec.ofChange lookupCompleteWrong)

/-- 'patchbaylaw24.LookupNil': WHATEVER THE INPUT: true; the input reads as it did. -/
def lookupNilSpec : ChangeSpec := { name := "lookupNil", fn := fun _ => fun
  | [d] => { results := [.lit (.bool true)], args := [d] }
  | _ => none }
def lookupNilRow : OpenClaim := { program := "ythdnpgpnodgicaagreat", sum := "6bc54eb32f6d06876710a6843ab59b8982e1ee9274fcb4a3141cfdc2d63ed149", func := "patchbay/patchbaylaw24.LookupNil", spec := "lookupNil", unfollowed := true, recurses := true, plainKeys := false, apart := false }
def LookupNilSaid : Prop := lookupNilRow.holds Tryz.pinned (OpenSpec.ofChange lookupNilSpec)

/-- ITS FALSE NEIGHBOUR: 'it returns false'. Refute it at one input. -/
def lookupNilWrong : ChangeSpec := { name := "lookupNil", fn := fun _ => fun
  | [d] => { results := [.lit (.bool false)], args := [d] }
  | _ => none }
def LookupNilWrongFalsely : Prop := lookupNilRow.holds Tryz.pinned (OpenSpec.ofChange lookupNilWrong)

/- THE SECOND FORM. 'bulk': how many values and letters a reading holds, each counted each time it is reached (what is shared counts as often as it is met; a slice's spare places count too). A statement '..UptoSaid' is the law's where the arguments, and the package variables that the reading takes, are together of bulk at most 1048576: NARROWER than '..Said'. Prove '..Said' where nothing that the law and all that it calls make is longer than what came in: it says more and counts as full. Else prove '..UptoSaid'. A law counts once. -/
mutual
def uptoBulk {H : Type} : DataW H → Nat
  | .lit (.string bytes) => bytes.length + 1
  | .lit _ => 1
  | .nil => 1
  | .ptr d => uptoBulk d + 1
  | .slice elems spare => uptoBulkAll elems + uptoBulkAll spare + 1
  | .agg parts => uptoBulkAll parts + 1
  | .iface _ d => uptoBulk d + 1
  | .map entries => uptoBulkEntries entries + 1
  | .held _ => 1
def uptoBulkAll {H : Type} : List (DataW H) → Nat
  | [] => 0
  | d :: r => uptoBulk d + uptoBulkAll r
def uptoBulkEntries {H : Type} : List (Lit × DataW H) → Nat
  | [] => 0
  | x :: r => uptoBulkEntry x + uptoBulkEntries r
def uptoBulkEntry {H : Type} : Lit × DataW H → Nat
  | (.string bytes, d) => bytes.length + uptoBulk d + 1
  | (_, d) => uptoBulk d + 1
 end
def uptoSmall : (H : Type) → List (DataW H) → Bool := fun _ ds => decide (uptoBulkAll ds ≤ 1048576)
def OpenSpec.upto (s : _root_.Go.ChangeSpec) : _root_.Go.OpenSpec := { _root_.Go.OpenSpec.ofChange s with cond := some uptoSmall }

/-- 'patchbaylaw24.LookupBest', WHERE WHAT IT READS IS OF BULK AT MOST 1048576: true; the input reads as it did. -/
def lookupBestUptoRow : OpenClaim := { program := "ythdnpgpnodgicaagreat", sum := "6bc54eb32f6d06876710a6843ab59b8982e1ee9274fcb4a3141cfdc2d63ed149", func := "patchbay/patchbaylaw24.LookupBest", spec := "lookupBest", unfollowed := true, recurses := true, loops := true, plainKeys := false, apart := false, narrowed := true }
def LookupBestUptoSaid : Prop := lookupBestUptoRow.holds Tryz.pinned (OpenSpec.upto lookupBestSpec)

/-- 'patchbaylaw24.LookupFinds', WHERE WHAT IT READS IS OF BULK AT MOST 1048576: true; the input reads as it did. -/
def lookupFindsUptoRow : OpenClaim := { program := "ythdnpgpnodgicaagreat", sum := "6bc54eb32f6d06876710a6843ab59b8982e1ee9274fcb4a3141cfdc2d63ed149", func := "patchbay/patchbaylaw24.LookupFinds", spec := "lookupFinds", unfollowed := true, recurses := true, loops := true, plainKeys := false, apart := false, narrowed := true }
def LookupFindsUptoSaid : Prop := lookupFindsUptoRow.holds Tryz.pinned (OpenSpec.upto lookupFindsSpec)

/-- 'patchbaylaw24.LookupOrder', WHERE WHAT IT READS IS OF BULK AT MOST 1048576: true; the input reads as it did. -/
def lookupOrderUptoRow : OpenClaim := { program := "ythdnpgpnodgicaagreat", sum := "6bc54eb32f6d06876710a6843ab59b8982e1ee9274fcb4a3141cfdc2d63ed149", func := "patchbay/patchbaylaw24.LookupOrder", spec := "lookupOrder", unfollowed := true, recurses := true, loops := true, plainKeys := false, apart := false, narrowed := true }
def LookupOrderUptoSaid : Prop := lookupOrderUptoRow.holds Tryz.pinned (OpenSpec.upto lookupOrderSpec)

/-- 'patchbaylaw24.LookupShadowed', WHERE WHAT IT READS IS OF BULK AT MOST 1048576: true; the input reads as it did. -/
def lookupShadowedUptoRow : OpenClaim := { program := "ythdnpgpnodgicaagreat", sum := "6bc54eb32f6d06876710a6843ab59b8982e1ee9274fcb4a3141cfdc2d63ed149", func := "patchbay/patchbaylaw24.LookupShadowed", spec := "lookupShadowed", unfollowed := true, recurses := true, loops := true, plainKeys := false, apart := false, narrowed := true }
def LookupShadowedUptoSaid : Prop := lookupShadowedUptoRow.holds Tryz.pinned (OpenSpec.upto lookupShadowedSpec)

/-- 'patchbaylaw24.LookupNever', WHERE WHAT IT READS IS OF BULK AT MOST 1048576: true; the input reads as it did. -/
def lookupNeverUptoRow : OpenClaim := { program := "ythdnpgpnodgicaagreat", sum := "6bc54eb32f6d06876710a6843ab59b8982e1ee9274fcb4a3141cfdc2d63ed149", func := "patchbay/patchbaylaw24.LookupNever", spec := "lookupNever", unfollowed := true, recurses := true, loops := true, plainKeys := false, apart := false, narrowed := true }
def LookupNeverUptoSaid : Prop := lookupNeverUptoRow.holds Tryz.pinned (OpenSpec.upto lookupNeverSpec)

/-- 'patchbaylaw24.LookupComplete', WHERE WHAT IT READS IS OF BULK AT MOST 1048576: true; the input reads as it did. -/
def lookupCompleteUptoRow : OpenClaim := { program := "ythdnpgpnodgicaagreat", sum := "6bc54eb32f6d06876710a6843ab59b8982e1ee9274fcb4a3141cfdc2d63ed149", func := "patchbay/patchbaylaw24.LookupComplete", spec := "lookupComplete", unfollowed := true, recurses := true, loops := true, plainKeys := false, apart := false, narrowed := true }
def LookupCompleteUptoSaid : Prop := lookupCompleteUptoRow.holds Tryz.pinned (OpenSpec.upto lookupCompleteSpec)

/-- 'patchbaylaw24.LookupNil', WHERE WHAT IT READS IS OF BULK AT MOST 1048576: true; the input reads as it did. -/
def lookupNilUptoRow : OpenClaim := { program := "ythdnpgpnodgicaagreat", sum := "6bc54eb32f6d06876710a6843ab59b8982e1ee9274fcb4a3141cfdc2d63ed149", func := "patchbay/patchbaylaw24.LookupNil", spec := "lookupNil", unfollowed := true, recurses := true, plainKeys := false, apart := false, narrowed := true }
def LookupNilUptoSaid : Prop := lookupNilUptoRow.holds Tryz.pinned (OpenSpec.upto lookupNilSpec)

end Rows
end Go.Proofs.YthdnpgpnodgicaaGreat
