/-
  The kit's contract of the library's sort, laid at this program.
-/
import Derived.Test.YtpdimhpjehfjeaaChecked
import Derived.Shelf.Lay
import Derived.Shelf.Sort.Plain
import Derived.Shelf.Slices.In.SortNone
import Derived.Ground.NamesProg
import Derived.Ground.Names2Prog
import Derived.Shelf.Slices.Delete
import Derived.Shelf.Slices.Turned
import Derived.Shelf.Spec.SlicesInsert
import Derived.Shelf.Spec.SlicesInsertGrow
import Derived.Test.YtpdimhpjehfjeaaPbI
namespace Go.Proofs
open Go.Shelf
def Try.sortI_ren : Go.Shelf.Ren:=⟨fun|189=>44|125=>52|257=>51|128=>66|129=>67|294=>58|295=>59|296=>60|297=>61|298=>62|299=>63|216=>53|300=>64|301=>65|328=>70|329=>71|330=>72|331=>73|332=>74|215=>68|343=>76|n=>n, fun|28=>31|3=>3|46=>58|0=>0|51=>70|53=>72|4=>4|183=>64|182=>63|131=>48|5=>5|9=>9|218=>73|222=>77|228=>79|229=>80|n=>n, fun|n=>n⟩
theorem Try.sortI : Go.Proofs.Lays.n189 Try.prog Try.sortI_ren:={
 mixed:=by kernel_rfl
 f125:=Try.func52.trans (congrArg some (by kernel_rfl))
 f128:=Try.func66.trans (congrArg some (by kernel_rfl))
 f129:=Try.func67.trans (congrArg some (by kernel_rfl))
 f189:=Try.func44.trans (congrArg some (by kernel_rfl))
 f215:=Try.func68.trans (congrArg some (by kernel_rfl))
 f216:=Try.func53.trans (congrArg some (by kernel_rfl))
 f257:=Try.func51.trans (congrArg some (by kernel_rfl))
 f294:=Try.func58.trans (congrArg some (by kernel_rfl))
 f295:=Try.func59.trans (congrArg some (by kernel_rfl))
 f296:=Try.func60.trans (congrArg some (by kernel_rfl))
 f297:=Try.func61.trans (congrArg some (by kernel_rfl))
 f298:=Try.func62.trans (congrArg some (by kernel_rfl))
 f299:=Try.func63.trans (congrArg some (by kernel_rfl))
 f300:=Try.func64.trans (congrArg some (by kernel_rfl))
 f301:=Try.func65.trans (congrArg some (by kernel_rfl))
 f328:=Try.func70.trans (congrArg some (by kernel_rfl))
 f329:=Try.func71.trans (congrArg some (by kernel_rfl))
 f330:=Try.func72.trans (congrArg some (by kernel_rfl))
 f331:=Try.func73.trans (congrArg some (by kernel_rfl))
 f332:=Try.func74.trans (congrArg some (by kernel_rfl))
 f343:=Try.func76.trans (congrArg some (by kernel_rfl))
 t0:=Try.underlying0
 a0:=Try.isAgg0
 z0:=Try.sizeOf0
 v0:=Try.zeroValue0
 t3:=Try.underlying3
 a3:=Try.isAgg3
 z3:=Try.sizeOf3
 v3:=Try.zeroValue3
 t4:=Try.underlying4
 a4:=Try.isAgg4
 z4:=Try.sizeOf4
 v4:=Try.zeroValue4
 t5:=Try.underlying5
 a5:=Try.isAgg5
 z5:=Try.sizeOf5
 v5:=Try.zeroValue5
 t9:=Try.underlying9
 a9:=Try.isAgg9
 z9:=Try.sizeOf9
 v9:=Try.zeroValue9
 t28:=Try.underlying31
 a28:=Try.isAgg31
 z28:=Try.sizeOf31
 v28:=Try.zeroValue31
 t46:=Try.underlying58
 a46:=Try.isAgg58
 z46:=Try.sizeOf58
 v46:=Try.zeroValue58
 t51:=Try.underlying70
 a51:=Try.isAgg70
 z51:=Try.sizeOf70
 v51:=Try.zeroValue70
 t53:=Try.underlying72
 a53:=Try.isAgg72
 z53:=Try.sizeOf72
 v53:=Try.zeroValue72
 t131:=Try.underlying48
 a131:=Try.isAgg48
 z131:=Try.sizeOf48
 v131:=Try.zeroValue48
 t182:=Try.underlying63
 a182:=Try.isAgg63
 z182:=Try.sizeOf63
 v182:=Try.zeroValue63
 t183:=Try.underlying64
 a183:=Try.isAgg64
 z183:=Try.sizeOf64
 v183:=Try.zeroValue64
 t218:=Try.underlying73
 a218:=Try.isAgg73
 z218:=Try.sizeOf73
 v218:=Try.zeroValue73
 t222:=Try.underlying77
 a222:=Try.isAgg77
 z222:=Try.sizeOf77
 v222:=Try.zeroValue77
 t228:=Try.underlying79
 a228:=Try.isAgg79
 z228:=Try.sizeOf79
 v228:=Try.zeroValue79
 t229:=Try.underlying80
 a229:=Try.isAgg80
 z229:=Try.sizeOf80
 v229:=Try.zeroValue80 }
def Try.insI_ren : Go.Shelf.Ren:=⟨fun|21=>48|27=>55|28=>56|35=>69|39=>75|n=>n, fun|22=>31|3=>3|4=>4|0=>0|n=>n, fun|n=>n⟩
theorem Try.insI : Go.Proofs.Lays2.n21 Try.prog Try.insI_ren:={
 mixed:=by kernel_rfl
 f21:=Try.func48.trans (congrArg some (by kernel_rfl))
 f27:=Try.func55.trans (congrArg some (by kernel_rfl))
 f28:=Try.func56.trans (congrArg some (by kernel_rfl))
 f35:=Try.func69.trans (congrArg some (by kernel_rfl))
 f39:=Try.func75.trans (congrArg some (by kernel_rfl))
 t0:=Try.underlying0
 a0:=Try.isAgg0
 z0:=Try.sizeOf0
 v0:=Try.zeroValue0
 t3:=Try.underlying3
 a3:=Try.isAgg3
 z3:=Try.sizeOf3
 v3:=Try.zeroValue3
 t4:=Try.underlying4
 a4:=Try.isAgg4
 z4:=Try.sizeOf4
 v4:=Try.zeroValue4
 t22:=Try.underlying31
 a22:=Try.isAgg31
 z22:=Try.sizeOf31
 v22:=Try.zeroValue31
 i3:=by kernel_rfl }
def Try.delI_ren : Go.Shelf.Ren:=⟨fun|23=>49|n=>n, fun|22=>31|3=>3|4=>4|0=>0|n=>n, fun|n=>n⟩
theorem Try.delI : Go.Proofs.Lays2.n23 Try.prog Try.delI_ren:={
 mixed:=by kernel_rfl
 f23:=Try.func49.trans (congrArg some (by kernel_rfl))
 t0:=Try.underlying0
 a0:=Try.isAgg0
 z0:=Try.sizeOf0
 v0:=Try.zeroValue0
 t3:=Try.underlying3
 a3:=Try.isAgg3
 z3:=Try.sizeOf3
 v3:=Try.zeroValue3
 t4:=Try.underlying4
 a4:=Try.isAgg4
 z4:=Try.sizeOf4
 v4:=Try.zeroValue4
 t22:=Try.underlying31
 a22:=Try.isAgg31
 z22:=Try.sizeOf31
 v22:=Try.zeroValue31
 i3:=by kernel_rfl }
def Try.maxI_ren : Go.Shelf.Ren:=⟨fun|113=>42|n=>n, fun|28=>31|3=>3|4=>4|9=>9|20=>20|0=>0|n=>n, fun|n=>n⟩
theorem Try.maxI : Go.Proofs.Lays.n113 Try.prog Try.maxI_ren:={
 mixed:=by kernel_rfl
 f113:=Try.func42.trans (congrArg some (by kernel_rfl))
 t0:=Try.underlying0
 a0:=Try.isAgg0
 z0:=Try.sizeOf0
 v0:=Try.zeroValue0
 t3:=Try.underlying3
 a3:=Try.isAgg3
 z3:=Try.sizeOf3
 v3:=Try.zeroValue3
 t4:=Try.underlying4
 a4:=Try.isAgg4
 z4:=Try.sizeOf4
 v4:=Try.zeroValue4
 t9:=Try.underlying9
 a9:=Try.isAgg9
 z9:=Try.sizeOf9
 v9:=Try.zeroValue9
 t20:=Try.underlying20
 a20:=Try.isAgg20
 z20:=Try.sizeOf20
 v20:=Try.zeroValue20
 t28:=Try.underlying31
 a28:=Try.isAgg31
 z28:=Try.sizeOf31
 v28:=Try.zeroValue31 }
theorem Try.insI_calls : Go.Pb.InsC Try.prog 48 3 :=
  ⟨Any2.slices_Insert_int_shift Try.insI, Any2.slices_Insert_int_end_room Try.insI, Any2.slices_Insert_int_end_grow Try.insI, Any2.slices_Insert_int_grow Try.insI⟩
theorem Try.delI_calls (blk off cap i j : Nat) (zs : List Int) (w : World) (hH : Go.Sort.Holds (Value.int .i64) w blk off zs.toArray) (h1 : zs.length ≤ cap) (h2 : cap ≤ 9223372036854775807) (h3 : i ≤ j) (h4 : j ≤ zs.length) :
    Calls Try.prog 49 #[.slice (some ⟨blk, off, none⟩) zs.length cap, .int .i64 i, .int .i64 j] w fun e w' => e = .returned (.slice (some ⟨blk, off, none⟩) (zs.length - (j - i)) cap) ∧ ∃ q, w' = Go.Sort.putRow (Value.int .i64) (Go.Sort.ahead w q) blk off (zs.take i ++ zs.drop j ++ List.replicate (j - i) 0).toArray :=
  Any.slices_Delete_int Try.delI blk off cap i j zs w hH h1 h2 h3 h4
theorem Try.maxI_calls (b off n c : Nat) (zs : List Int) (w : World) (hn : 0 < n) (hz : n ≤ zs.length) (hbig : n ≤ 9223372036854775807) (hc : ∀ j, j < zs.length → w.cell? ⟨b, off + j, none⟩ = some (.int .i64 (zs.getD j 0))) :
    Calls Try.prog 42 #[.slice (some ⟨b, off, none⟩) n c] w fun e w' => e = .returned (.int .i64 (Go.Lib.maxOf (zs.take n))) ∧ w' = w := Any.slices_Max_int Try.maxI b off n c zs w hn hz hbig hc
theorem Try.sortI_calls (blk off cap : Nat) (zs : List Int) (w : World) (hH : Go.Sort.Holds (Value.int .i64) w blk off zs.toArray) (hblk : blk < w.heap.size) (hsz : zs.length < 4611686018427387904) :
    Calls Try.prog 44 #[.slice (some ⟨blk, off, none⟩) zs.length cap] w fun e w' => e = .returned (.tuple #[]) ∧ ∃ n os, w' = Go.Sort.grow (Go.Sort.putRow (Value.int .i64) (Go.Sort.ahead w n) blk off (zs.mergeSort fun x y => decide (x ≤ y)).toArray) os :=
  Any.slices_Sort_int Try.sortI blk off cap zs w hH hblk hsz
theorem Try.sortI_none (p : Option Addr) (cap : Nat) (w : World) : Calls Try.prog 44 #[.slice p 0 cap] w fun e w' => e = .returned (.tuple #[]) ∧ w' = w := Any.slices_Sort_int_none Try.sortI p cap w
end Go.Proofs
