/-
  Heights, plain: for every node in turn, one more than the greatest of its successors.
-/
import Derived.Test.YtpdimhpjehfjeaaPbP
namespace Go.Proofs.Ytpdimhpjehfjeaa
open Go Go.Pb
/-- One edge; one node; all that come. -/
def htOne (v : Int) (o : List Int) (w : Int) : List Int := o.set v.toNat (max (ix o v) (ix o w + 1))
def htStep (g : List (List Int)) (o : List Int) (v : Int) : List Int := (ix g v).foldl (htOne v) o
def htsL (g : List (List Int)) (vs : List Int) : List Int := vs.foldl (htStep g) (List.replicate g.length 0)
def maxL (zs : List Int) : Int := zs.foldl max (zs.headD 0)
end Go.Proofs.Ytpdimhpjehfjeaa
