import Derived.Test.YtmonnlkagniolaaChecked
import Derived.Shelf.Lay
import Derived.Shelf.Sort.Plain
import Derived.Shelf.Slices.In.SortNone
import Derived.Shelf.SlSortCmp.NoneTotal
import Derived.Ground.NamesProg
import Derived.Ground.SlsfProg
namespace Go.Proofs
open Go.Shelf
def Try.sortI_ren : Go.Shelf.Ren:=⟨fun|189=>37|125=>47|257=>49|128=>62|129=>63|294=>64|295=>65|296=>66|297=>67|298=>68|299=>69|216=>70|300=>71|301=>72|328=>80|329=>76|330=>77|331=>81|332=>82|215=>48|343=>90|n=>n, fun|28=>29|3=>3|46=>112|0=>0|51=>108|53=>131|4=>4|183=>123|182=>122|131=>127|5=>5|9=>9|218=>144|222=>148|228=>158|229=>159|n=>n, fun|n=>n⟩
theorem Try.sortI : Go.Proofs.Lays.n189 Try.prog Try.sortI_ren:={
 mixed:=by kernel_rfl
 f125:=Try.func47.trans (congrArg some (by kernel_rfl))
 f128:=Try.func62.trans (congrArg some (by kernel_rfl))
 f129:=Try.func63.trans (congrArg some (by kernel_rfl))
 f189:=Try.func37.trans (congrArg some (by kernel_rfl))
 f215:=Try.func48.trans (congrArg some (by kernel_rfl))
 f216:=Try.func70.trans (congrArg some (by kernel_rfl))
 f257:=Try.func49.trans (congrArg some (by kernel_rfl))
 f294:=Try.func64.trans (congrArg some (by kernel_rfl))
 f295:=Try.func65.trans (congrArg some (by kernel_rfl))
 f296:=Try.func66.trans (congrArg some (by kernel_rfl))
 f297:=Try.func67.trans (congrArg some (by kernel_rfl))
 f298:=Try.func68.trans (congrArg some (by kernel_rfl))
 f299:=Try.func69.trans (congrArg some (by kernel_rfl))
 f300:=Try.func71.trans (congrArg some (by kernel_rfl))
 f301:=Try.func72.trans (congrArg some (by kernel_rfl))
 f328:=Try.func80.trans (congrArg some (by kernel_rfl))
 f329:=Try.func76.trans (congrArg some (by kernel_rfl))
 f330:=Try.func77.trans (congrArg some (by kernel_rfl))
 f331:=Try.func81.trans (congrArg some (by kernel_rfl))
 f332:=Try.func82.trans (congrArg some (by kernel_rfl))
 f343:=Try.func90.trans (congrArg some (by kernel_rfl))
 t0:=Try.underlying0
 a0:=Try.isAgg0
 z0:=Try.sizeOf0
 v0:=Try.zeroValue0
 t3:=Try.underlying3
 a3:=Try.isAgg3
 z3:=Try.sizeOf3
 v3:=Try.zeroValue3
 t4:=Try.underlying4
 a4:=Try.isAgg4
 z4:=Try.sizeOf4
 v4:=Try.zeroValue4
 t5:=Try.underlying5
 a5:=Try.isAgg5
 z5:=Try.sizeOf5
 v5:=Try.zeroValue5
 t9:=Try.underlying9
 a9:=Try.isAgg9
 z9:=Try.sizeOf9
 v9:=Try.zeroValue9
 t28:=Try.underlying29
 a28:=Try.isAgg29
 z28:=Try.sizeOf29
 v28:=Try.zeroValue29
 t46:=Try.underlying112
 a46:=Try.isAgg112
 z46:=Try.sizeOf112
 v46:=Try.zeroValue112
 t51:=Try.underlying108
 a51:=Try.isAgg108
 z51:=Try.sizeOf108
 v51:=Try.zeroValue108
 t53:=Try.underlying131
 a53:=Try.isAgg131
 z53:=Try.sizeOf131
 v53:=Try.zeroValue131
 t131:=Try.underlying127
 a131:=Try.isAgg127
 z131:=Try.sizeOf127
 v131:=Try.zeroValue127
 t182:=Try.underlying122
 a182:=Try.isAgg122
 z182:=Try.sizeOf122
 v182:=Try.zeroValue122
 t183:=Try.underlying123
 a183:=Try.isAgg123
 z183:=Try.sizeOf123
 v183:=Try.zeroValue123
 t218:=Try.underlying144
 a218:=Try.isAgg144
 z218:=Try.sizeOf144
 v218:=Try.zeroValue144
 t222:=Try.underlying148
 a222:=Try.isAgg148
 z222:=Try.sizeOf148
 v222:=Try.zeroValue148
 t228:=Try.underlying158
 a228:=Try.isAgg158
 z228:=Try.sizeOf158
 v228:=Try.zeroValue158
 t229:=Try.underlying159
 a229:=Try.isAgg159
 z229:=Try.sizeOf159
 v229:=Try.zeroValue159 }
def Try.sortF_ren : Go.Shelf.Ren:=⟨fun|6=>32|15=>47|14=>46|28=>62|29=>63|20=>54|21=>55|22=>56|23=>57|24=>58|25=>59|26=>60|27=>61|46=>75|47=>76|48=>77|49=>78|50=>79|57=>89|n=>n, fun|22=>72|24=>58|25=>95|3=>3|39=>112|0=>0|53=>108|55=>131|4=>4|46=>123|45=>122|50=>127|5=>5|9=>9|66=>144|70=>148|76=>158|77=>159|n=>n, fun|n=>n⟩
theorem Try.sortF : Go.Proofs.SlLaysF0.n6 Try.prog Try.sortF_ren:={
 mixed:=by kernel_rfl
 f6:=⟨Try.f32.name, by decide, Try.func32.trans (congrArg some (by kernel_rfl))⟩
 f14:=⟨Try.f46.name, by decide, Try.func46.trans (congrArg some (by kernel_rfl))⟩
 f15:=Try.func47.trans (congrArg some (by kernel_rfl))
 f20:=⟨Try.f54.name, by decide, Try.func54.trans (congrArg some (by kernel_rfl))⟩
 f21:=⟨Try.f55.name, by decide, Try.func55.trans (congrArg some (by kernel_rfl))⟩
 f22:=⟨Try.f56.name, by decide, Try.func56.trans (congrArg some (by kernel_rfl))⟩
 f23:=⟨Try.f57.name, by decide, Try.func57.trans (congrArg some (by kernel_rfl))⟩
 f24:=⟨Try.f58.name, by decide, Try.func58.trans (congrArg some (by kernel_rfl))⟩
 f25:=⟨Try.f59.name, by decide, Try.func59.trans (congrArg some (by kernel_rfl))⟩
 f26:=⟨Try.f60.name, by decide, Try.func60.trans (congrArg some (by kernel_rfl))⟩
 f27:=⟨Try.f61.name, by decide, Try.func61.trans (congrArg some (by kernel_rfl))⟩
 f28:=Try.func62.trans (congrArg some (by kernel_rfl))
 f29:=Try.func63.trans (congrArg some (by kernel_rfl))
 f46:=⟨Try.f75.name, by decide, Try.func75.trans (congrArg some (by kernel_rfl))⟩
 f47:=Try.func76.trans (congrArg some (by kernel_rfl))
 f48:=Try.func77.trans (congrArg some (by kernel_rfl))
 f49:=⟨Try.f78.name, by decide, Try.func78.trans (congrArg some (by kernel_rfl))⟩
 f50:=⟨Try.f79.name, by decide, Try.func79.trans (congrArg some (by kernel_rfl))⟩
 f57:=⟨Try.f89.name, by decide, Try.func89.trans (congrArg some (by kernel_rfl))⟩
 t0:=Try.underlying0
 a0:=Try.isAgg0
 z0:=Try.sizeOf0
 v0:=Try.zeroValue0
 t3:=Try.underlying3
 a3:=Try.isAgg3
 z3:=Try.sizeOf3
 v3:=Try.zeroValue3
 t4:=Try.underlying4
 a4:=Try.isAgg4
 z4:=Try.sizeOf4
 v4:=Try.zeroValue4
 t5:=Try.underlying5
 a5:=Try.isAgg5
 z5:=Try.sizeOf5
 v5:=Try.zeroValue5
 t9:=Try.underlying9
 a9:=Try.isAgg9
 z9:=Try.sizeOf9
 v9:=Try.zeroValue9
 t22:=Try.underlying72
 a22:=Try.isAgg72
 z22:=Try.sizeOf72
 v22:=Try.zeroValue72
 t25:=Try.underlying95
 a25:=Try.isAgg95
 z25:=Try.sizeOf95
 v25:=Try.zeroValue95
 t39:=Try.underlying112
 a39:=Try.isAgg112
 z39:=Try.sizeOf112
 v39:=Try.zeroValue112
 t45:=Try.underlying122
 a45:=Try.isAgg122
 z45:=Try.sizeOf122
 v45:=Try.zeroValue122
 t46:=Try.underlying123
 a46:=Try.isAgg123
 z46:=Try.sizeOf123
 v46:=Try.zeroValue123
 t50:=Try.underlying127
 a50:=Try.isAgg127
 z50:=Try.sizeOf127
 v50:=Try.zeroValue127
 t53:=Try.underlying108
 a53:=Try.isAgg108
 z53:=Try.sizeOf108
 v53:=Try.zeroValue108
 t55:=Try.underlying131
 a55:=Try.isAgg131
 z55:=Try.sizeOf131
 v55:=Try.zeroValue131
 t66:=Try.underlying144
 a66:=Try.isAgg144
 z66:=Try.sizeOf144
 v66:=Try.zeroValue144
 t70:=Try.underlying148
 a70:=Try.isAgg148
 z70:=Try.sizeOf148
 v70:=Try.zeroValue148
 t76:=Try.underlying158
 a76:=Try.isAgg158
 z76:=Try.sizeOf158
 v76:=Try.zeroValue158
 t77:=Try.underlying159
 a77:=Try.isAgg159
 z77:=Try.sizeOf159
 v77:=Try.zeroValue159 }
theorem Try.sortI_calls (blk off cap : Nat) (zs : List Int) (w : World) (hH : Go.Sort.Holds (Value.int .i64) w blk off zs.toArray) (hblk : blk < w.heap.size) (hsz : zs.length < 4611686018427387904) :
    Calls Try.prog 37 #[.slice (some ⟨blk, off, none⟩) zs.length cap] w fun e w' => e = .returned (.tuple #[]) ∧ ∃ n os, w' = Go.Sort.grow (Go.Sort.putRow (Value.int .i64) (Go.Sort.ahead w n) blk off (zs.mergeSort fun x y => decide (x ≤ y)).toArray) os :=
  Any.slices_Sort_int Try.sortI blk off cap zs w hH hblk hsz
theorem Try.sortI_none (p : Option Addr) (cap : Nat) (w : World) : Calls Try.prog 37 #[.slice p 0 cap] w fun e w' => e = .returned (.tuple #[]) ∧ w' = w := Any.slices_Sort_int_none Try.sortI p cap w
theorem Try.sortF_none (p : Option Addr) (cap : Nat) (fv : Value) (w : World) : Calls Try.prog 32 #[.slice p 0 cap, fv] w fun e w' => e = .returned (.tuple #[]) ∧ w' = w := AnyF.slices_SortFunc_none Try.sortF p cap fv w
theorem Try.sortF_calls {α : Type} [Inhabited α] (enc : α → List Value) (hk : ∀ x, (enc x).length = 2) (h1 : ∀ x, ∀ v ∈ enc x, v.oneCell' = true) (cf : α → α → Int) (hO : Go.Sort.SWO (ltOf cf)) (hT : ∀ x y, (ltOf cf) x y = false → (ltOf cf) y x = false → x = y) (g : Nat) (eg : ∀ args w, (callFunc g args).run Try.prog w = .ok (.enter g args) w)
    (blk off cap : Nat) (d : Array α) (w : World) (hcmp : CmpLays Try.prog g #[] enc 2 cf blk off d.size w) (hH : Go.Sort.HoldsK enc 2 w blk off d) (hblk : blk < w.heap.size) (hsz : d.size < 4611686018427387904) :
    Calls Try.prog 32 #[.slice (some ⟨blk, off, none⟩) d.size cap, .func (.func g) #[] #[]] w fun e w' => e = .returned (.tuple #[]) ∧ ∃ n os, w' = sortWorldK enc 2 w blk off n (d.toList.mergeSort fun x y => !(ltOf cf) y x).toArray os :=
  AnyQ.slices_SortFunc_total Try.sortF 2 Try.isAgg58 Try.sizeOf58 enc hk h1 cf hO g #[] blk off cap d w eg hcmp hH hblk hsz hT
end Go.Proofs
