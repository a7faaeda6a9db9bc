/-
  Functions without arguments, carried out.
-/
import Derived.Test.YtkgnjpoafilicaaPbK
import Derived.Test.YtkgnjpoafilicaaL9Text
set_option linter.unusedVariables false
set_option linter.unusedSimpArgs false
set_option maxRecDepth 100000
namespace Go.Proofs.Ytkgnjpoafilicaa
open Go Go.Pb Go.RowKit
def tbl : List (FT Try.prog) := [⟨[], _, _, _, _, _, _, text29⟩,
  ⟨[], _, _, _, _, _, _, text62⟩,
  ⟨[], _, _, _, _, _, _, text31⟩,
  ⟨[], _, _, _, _, _, _, text16⟩,
  ⟨[], _, _, _, _, _, _, text20⟩,
  ⟨[], _, _, _, _, _, _, text56⟩,
  ⟨[], _, _, _, _, _, _, text48⟩,
  ⟨[], _, _, _, _, _, _, text22⟩,
  ⟨[], _, _, _, _, _, _, text49⟩,
  ⟨[], _, _, _, _, _, _, text50⟩,
  ⟨[], _, _, _, _, _, _, text75⟩,
  ⟨[], _, _, _, _, _, _, text84⟩,
  ⟨[], _, _, _, _, _, _, text86⟩,
  ⟨[], _, _, _, _, _, _, text87⟩,
  ⟨[], _, _, _, _, _, _, text92⟩,
  ⟨[], _, _, _, _, _, _, text93⟩,
  ⟨[], _, _, _, _, _, _, text98⟩,
  ⟨[], _, _, _, _, _, _, text94⟩,
  ⟨[], _, _, _, _, _, _, text88⟩,
  ⟨[], _, _, _, _, _, _, text51⟩,
  ⟨[9], _, _, _, _, _, _, text63⟩,
  ⟨[], _, _, _, _, _, _, text64⟩,
  ⟨[], _, _, _, _, _, _, text65⟩,
  ⟨[], _, _, _, _, _, _, text66⟩,
  ⟨[], _, _, _, _, _, _, text36⟩,
  ⟨[], _, _, _, _, _, _, text69⟩,
  ⟨[], _, _, _, _, _, _, text70⟩,
  ⟨[], _, _, _, _, _, _, text82⟩,
  ⟨[], _, _, _, _, _, _, text68⟩,
  ⟨[], _, _, _, _, _, _, text81⟩,
  ⟨[], _, _, _, _, _, _, text34⟩]
theorem run29 : FnR Try.prog 29 [] (vb true) := run_true (tb := tbl) (n := 1000000) (by kernel_rfl)

end Go.Proofs.Ytkgnjpoafilicaa
