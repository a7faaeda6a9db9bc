/-
  What the claims read of their arguments.
-/
import Derived.Test.YtpdimhpjehfjeaaPbA
import Derived.Test.YtpdimhpjehfjeaaKTy
set_option linter.unusedVariables false
set_option linter.unusedSimpArgs false
set_option maxRecDepth 100000
namespace Go.Proofs.Ytpdimhpjehfjeaa
open Go Go.Pb Go.RowKit

theorem arg22 {c : PV} (h : IsArg Try.prog 22 c) : ∃ a, (tSl (tSl tI)).R a c := isArg_reads (reads_slices Try.underlying22 (reads_slices Try.underlying31 (reads_int Try.underlying3))) h
end Go.Proofs.Ytpdimhpjehfjeaa
