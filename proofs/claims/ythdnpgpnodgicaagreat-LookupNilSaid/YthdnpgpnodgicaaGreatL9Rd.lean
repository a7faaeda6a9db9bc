/-
  What the claims read of their arguments.
-/
import Derived.Test.YthdnpgpnodgicaaGreatPbA
import Derived.Test.YthdnpgpnodgicaaGreatKTy
set_option linter.unusedVariables false
set_option linter.unusedSimpArgs false
set_option maxRecDepth 100000
namespace Go.Proofs.YthdnpgpnodgicaaGreat
open Go Go.Pb Go.RowKit

theorem arg33 {c : PV} (h : IsArg Tryz.prog 33 c) : ∃ a, (tSl tU32).R a c := isArg_reads (reads_slices Tryz.underlying33 (reads_u32 Tryz.underlying64)) h
end Go.Proofs.YthdnpgpnodgicaaGreat
