/-
  The kit's contract of the library's sort, laid at this program.
-/
import Derived.Test.YtpdimhpjehfjeaaChecked
import Derived.Shelf.Lay
import Derived.Shelf.Sort.Plain
import Derived.Shelf.Slices.In.SortNone
import Derived.Ground.NamesProg
import Derived.Ground.Names2Prog
import Derived.Shelf.Slices.Delete
import Derived.Shelf.Slices.Turned
import Derived.Shelf.Spec.SlicesInsert
import Derived.Shelf.Spec.SlicesInsertGrow
import Derived.Test.YtpdimhpjehfjeaaPbI
namespace Go.Proofs
open Go.Shelf
shelf_lay Lays.n189 Nm 189 at Try as Try.sortI
shelf_lay Lays2.n21 Nm2 21 at Try as Try.insI
shelf_lay Lays2.n23 Nm2 23 at Try as Try.delI
shelf_lay Lays.n113 Nm 113 at Try as Try.maxI
theorem Try.insI_calls : Go.Pb.InsC Try.prog 48 3 :=
  ⟨Any2.slices_Insert_int_shift Try.insI, Any2.slices_Insert_int_end_room Try.insI, Any2.slices_Insert_int_end_grow Try.insI, Any2.slices_Insert_int_grow Try.insI⟩
theorem Try.delI_calls (blk off cap i j : Nat) (zs : List Int) (w : World) (hH : Go.Sort.Holds (Value.int .i64) w blk off zs.toArray) (h1 : zs.length ≤ cap) (h2 : cap ≤ 9223372036854775807) (h3 : i ≤ j) (h4 : j ≤ zs.length) :
    Calls Try.prog 49 #[.slice (some ⟨blk, off, none⟩) zs.length cap, .int .i64 i, .int .i64 j] w fun e w' => e = .returned (.slice (some ⟨blk, off, none⟩) (zs.length - (j - i)) cap) ∧ ∃ q, w' = Go.Sort.putRow (Value.int .i64) (Go.Sort.ahead w q) blk off (zs.take i ++ zs.drop j ++ List.replicate (j - i) 0).toArray :=
  Any.slices_Delete_int Try.delI blk off cap i j zs w hH h1 h2 h3 h4
theorem Try.maxI_calls (b off n c : Nat) (zs : List Int) (w : World) (hn : 0 < n) (hz : n ≤ zs.length) (hbig : n ≤ 9223372036854775807) (hc : ∀ j, j < zs.length → w.cell? ⟨b, off + j, none⟩ = some (.int .i64 (zs.getD j 0))) :
    Calls Try.prog 42 #[.slice (some ⟨b, off, none⟩) n c] w fun e w' => e = .returned (.int .i64 (Go.Lib.maxOf (zs.take n))) ∧ w' = w := Any.slices_Max_int Try.maxI b off n c zs w hn hz hbig hc
theorem Try.sortI_calls (blk off cap : Nat) (zs : List Int) (w : World) (hH : Go.Sort.Holds (Value.int .i64) w blk off zs.toArray) (hblk : blk < w.heap.size) (hsz : zs.length < 4611686018427387904) :
    Calls Try.prog 44 #[.slice (some ⟨blk, off, none⟩) zs.length cap] w fun e w' => e = .returned (.tuple #[]) ∧ ∃ n os, w' = Go.Sort.grow (Go.Sort.putRow (Value.int .i64) (Go.Sort.ahead w n) blk off (zs.mergeSort fun x y => decide (x ≤ y)).toArray) os :=
  Any.slices_Sort_int Try.sortI blk off cap zs w hH hblk hsz
theorem Try.sortI_none (p : Option Addr) (cap : Nat) (w : World) : Calls Try.prog 44 #[.slice p 0 cap] w fun e w' => e = .returned (.tuple #[]) ∧ w' = w := Any.slices_Sort_int_none Try.sortI p cap w
end Go.Proofs
