/-
  The kit's contracts of the library's sorts, laid at this program.
-/
import Derived.Test.YtnejfbehaembkaaChecked
import Derived.Shelf.Lay
import Derived.Shelf.Sort.Plain
import Derived.Shelf.Slices.In.SortNone
import Derived.Shelf.SlSortCmp.NoneTotal
import Derived.Ground.NamesProg
import Derived.Ground.SlsfProg
namespace Go.Proofs
open Go.Shelf
def Try.sortI_ren : Go.Shelf.Ren:=⟨fun|189=>31|125=>42|257=>45|128=>63|129=>64|294=>65|295=>66|296=>67|297=>68|298=>69|299=>70|216=>71|300=>72|301=>73|328=>91|329=>87|330=>88|331=>92|332=>93|215=>43|343=>96|n=>n, fun|28=>29|3=>3|46=>97|0=>0|51=>57|53=>120|4=>4|183=>113|182=>112|131=>109|5=>5|9=>9|218=>135|222=>139|228=>145|229=>146|n=>n, fun|n=>n⟩
theorem Try.sortI : Go.Proofs.Lays.n189 Try.prog Try.sortI_ren:={
 mixed:=by kernel_rfl
 f125:=Try.func42.trans (congrArg some (by kernel_rfl))
 f128:=Try.func63.trans (congrArg some (by kernel_rfl))
 f129:=Try.func64.trans (congrArg some (by kernel_rfl))
 f189:=Try.func31.trans (congrArg some (by kernel_rfl))
 f215:=Try.func43.trans (congrArg some (by kernel_rfl))
 f216:=Try.func71.trans (congrArg some (by kernel_rfl))
 f257:=Try.func45.trans (congrArg some (by kernel_rfl))
 f294:=Try.func65.trans (congrArg some (by kernel_rfl))
 f295:=Try.func66.trans (congrArg some (by kernel_rfl))
 f296:=Try.func67.trans (congrArg some (by kernel_rfl))
 f297:=Try.func68.trans (congrArg some (by kernel_rfl))
 f298:=Try.func69.trans (congrArg some (by kernel_rfl))
 f299:=Try.func70.trans (congrArg some (by kernel_rfl))
 f300:=Try.func72.trans (congrArg some (by kernel_rfl))
 f301:=Try.func73.trans (congrArg some (by kernel_rfl))
 f328:=Try.func91.trans (congrArg some (by kernel_rfl))
 f329:=Try.func87.trans (congrArg some (by kernel_rfl))
 f330:=Try.func88.trans (congrArg some (by kernel_rfl))
 f331:=Try.func92.trans (congrArg some (by kernel_rfl))
 f332:=Try.func93.trans (congrArg some (by kernel_rfl))
 f343:=Try.func96.trans (congrArg some (by kernel_rfl))
 t0:=Try.underlying0
 a0:=Try.isAgg0
 z0:=Try.sizeOf0
 v0:=Try.zeroValue0
 t3:=Try.underlying3
 a3:=Try.isAgg3
 z3:=Try.sizeOf3
 v3:=Try.zeroValue3
 t4:=Try.underlying4
 a4:=Try.isAgg4
 z4:=Try.sizeOf4
 v4:=Try.zeroValue4
 t5:=Try.underlying5
 a5:=Try.isAgg5
 z5:=Try.sizeOf5
 v5:=Try.zeroValue5
 t9:=Try.underlying9
 a9:=Try.isAgg9
 z9:=Try.sizeOf9
 v9:=Try.zeroValue9
 t28:=Try.underlying29
 a28:=Try.isAgg29
 z28:=Try.sizeOf29
 v28:=Try.zeroValue29
 t46:=Try.underlying97
 a46:=Try.isAgg97
 z46:=Try.sizeOf97
 v46:=Try.zeroValue97
 t51:=Try.underlying57
 a51:=Try.isAgg57
 z51:=Try.sizeOf57
 v51:=Try.zeroValue57
 t53:=Try.underlying120
 a53:=Try.isAgg120
 z53:=Try.sizeOf120
 v53:=Try.zeroValue120
 t131:=Try.underlying109
 a131:=Try.isAgg109
 z131:=Try.sizeOf109
 v131:=Try.zeroValue109
 t182:=Try.underlying112
 a182:=Try.isAgg112
 z182:=Try.sizeOf112
 v182:=Try.zeroValue112
 t183:=Try.underlying113
 a183:=Try.isAgg113
 z183:=Try.sizeOf113
 v183:=Try.zeroValue113
 t218:=Try.underlying135
 a218:=Try.isAgg135
 z218:=Try.sizeOf135
 v218:=Try.zeroValue135
 t222:=Try.underlying139
 a222:=Try.isAgg139
 z222:=Try.sizeOf139
 v222:=Try.zeroValue139
 t228:=Try.underlying145
 a228:=Try.isAgg145
 z228:=Try.sizeOf145
 v228:=Try.zeroValue145
 t229:=Try.underlying146
 a229:=Try.isAgg146
 z229:=Try.sizeOf146
 v229:=Try.zeroValue146 }
def Try.sortF_ren : Go.Shelf.Ren:=⟨fun|6=>25|15=>42|14=>41|28=>63|29=>64|20=>55|21=>56|22=>57|23=>58|24=>59|25=>60|26=>61|27=>62|46=>86|47=>87|48=>88|49=>89|50=>90|57=>95|n=>n, fun|22=>52|24=>60|25=>78|3=>3|39=>97|0=>0|53=>57|55=>120|4=>4|46=>113|45=>112|50=>109|5=>5|9=>9|66=>135|70=>139|76=>145|77=>146|n=>n, fun|n=>n⟩
theorem Try.sortF : Go.Proofs.SlLaysF0.n6 Try.prog Try.sortF_ren:={
 mixed:=by kernel_rfl
 f6:=⟨Try.f25.name, by decide, Try.func25.trans (congrArg some (by kernel_rfl))⟩
 f14:=⟨Try.f41.name, by decide, Try.func41.trans (congrArg some (by kernel_rfl))⟩
 f15:=Try.func42.trans (congrArg some (by kernel_rfl))
 f20:=⟨Try.f55.name, by decide, Try.func55.trans (congrArg some (by kernel_rfl))⟩
 f21:=⟨Try.f56.name, by decide, Try.func56.trans (congrArg some (by kernel_rfl))⟩
 f22:=⟨Try.f57.name, by decide, Try.func57.trans (congrArg some (by kernel_rfl))⟩
 f23:=⟨Try.f58.name, by decide, Try.func58.trans (congrArg some (by kernel_rfl))⟩
 f24:=⟨Try.f59.name, by decide, Try.func59.trans (congrArg some (by kernel_rfl))⟩
 f25:=⟨Try.f60.name, by decide, Try.func60.trans (congrArg some (by kernel_rfl))⟩
 f26:=⟨Try.f61.name, by decide, Try.func61.trans (congrArg some (by kernel_rfl))⟩
 f27:=⟨Try.f62.name, by decide, Try.func62.trans (congrArg some (by kernel_rfl))⟩
 f28:=Try.func63.trans (congrArg some (by kernel_rfl))
 f29:=Try.func64.trans (congrArg some (by kernel_rfl))
 f46:=⟨Try.f86.name, by decide, Try.func86.trans (congrArg some (by kernel_rfl))⟩
 f47:=Try.func87.trans (congrArg some (by kernel_rfl))
 f48:=Try.func88.trans (congrArg some (by kernel_rfl))
 f49:=⟨Try.f89.name, by decide, Try.func89.trans (congrArg some (by kernel_rfl))⟩
 f50:=⟨Try.f90.name, by decide, Try.func90.trans (congrArg some (by kernel_rfl))⟩
 f57:=⟨Try.f95.name, by decide, Try.func95.trans (congrArg some (by kernel_rfl))⟩
 t0:=Try.underlying0
 a0:=Try.isAgg0
 z0:=Try.sizeOf0
 v0:=Try.zeroValue0
 t3:=Try.underlying3
 a3:=Try.isAgg3
 z3:=Try.sizeOf3
 v3:=Try.zeroValue3
 t4:=Try.underlying4
 a4:=Try.isAgg4
 z4:=Try.sizeOf4
 v4:=Try.zeroValue4
 t5:=Try.underlying5
 a5:=Try.isAgg5
 z5:=Try.sizeOf5
 v5:=Try.zeroValue5
 t9:=Try.underlying9
 a9:=Try.isAgg9
 z9:=Try.sizeOf9
 v9:=Try.zeroValue9
 t22:=Try.underlying52
 a22:=Try.isAgg52
 z22:=Try.sizeOf52
 v22:=Try.zeroValue52
 t25:=Try.underlying78
 a25:=Try.isAgg78
 z25:=Try.sizeOf78
 v25:=Try.zeroValue78
 t39:=Try.underlying97
 a39:=Try.isAgg97
 z39:=Try.sizeOf97
 v39:=Try.zeroValue97
 t45:=Try.underlying112
 a45:=Try.isAgg112
 z45:=Try.sizeOf112
 v45:=Try.zeroValue112
 t46:=Try.underlying113
 a46:=Try.isAgg113
 z46:=Try.sizeOf113
 v46:=Try.zeroValue113
 t50:=Try.underlying109
 a50:=Try.isAgg109
 z50:=Try.sizeOf109
 v50:=Try.zeroValue109
 t53:=Try.underlying57
 a53:=Try.isAgg57
 z53:=Try.sizeOf57
 v53:=Try.zeroValue57
 t55:=Try.underlying120
 a55:=Try.isAgg120
 z55:=Try.sizeOf120
 v55:=Try.zeroValue120
 t66:=Try.underlying135
 a66:=Try.isAgg135
 z66:=Try.sizeOf135
 v66:=Try.zeroValue135
 t70:=Try.underlying139
 a70:=Try.isAgg139
 z70:=Try.sizeOf139
 v70:=Try.zeroValue139
 t76:=Try.underlying145
 a76:=Try.isAgg145
 z76:=Try.sizeOf145
 v76:=Try.zeroValue145
 t77:=Try.underlying146
 a77:=Try.isAgg146
 z77:=Try.sizeOf146
 v77:=Try.zeroValue146 }
theorem Try.sortI_calls (blk off cap : Nat) (zs : List Int) (w : World) (hH : Go.Sort.Holds (Value.int .i64) w blk off zs.toArray) (hblk : blk < w.heap.size) (hsz : zs.length < 4611686018427387904) :
    Calls Try.prog 31 #[.slice (some ⟨blk, off, none⟩) zs.length cap] w fun e w' => e = .returned (.tuple #[]) ∧ ∃ n os, w' = Go.Sort.grow (Go.Sort.putRow (Value.int .i64) (Go.Sort.ahead w n) blk off (zs.mergeSort fun x y => decide (x ≤ y)).toArray) os :=
  Any.slices_Sort_int Try.sortI blk off cap zs w hH hblk hsz
theorem Try.sortI_none (p : Option Addr) (cap : Nat) (w : World) : Calls Try.prog 31 #[.slice p 0 cap] w fun e w' => e = .returned (.tuple #[]) ∧ w' = w := Any.slices_Sort_int_none Try.sortI p cap w
theorem Try.sortF_none (p : Option Addr) (cap : Nat) (fv : Value) (w : World) : Calls Try.prog 25 #[.slice p 0 cap, fv] w fun e w' => e = .returned (.tuple #[]) ∧ w' = w := AnyF.slices_SortFunc_none Try.sortF p cap fv w
theorem Try.sortF_calls {α : Type} [Inhabited α] (enc : α → List Value) (hk : ∀ x, (enc x).length = 2) (h1 : ∀ x, ∀ v ∈ enc x, v.oneCell' = true) (cf : α → α → Int) (hO : Go.Sort.SWO (ltOf cf)) (hT : ∀ x y, (ltOf cf) x y = false → (ltOf cf) y x = false → x = y) (g : Nat) (eg : ∀ args w, (callFunc g args).run Try.prog w = .ok (.enter g args) w)
    (blk off cap : Nat) (d : Array α) (w : World) (hcmp : CmpLays Try.prog g #[] enc 2 cf blk off d.size w) (hH : Go.Sort.HoldsK enc 2 w blk off d) (hblk : blk < w.heap.size) (hsz : d.size < 4611686018427387904) :
    Calls Try.prog 25 #[.slice (some ⟨blk, off, none⟩) d.size cap, .func (.func g) #[] #[]] w fun e w' => e = .returned (.tuple #[]) ∧ ∃ n os, w' = sortWorldK enc 2 w blk off n (d.toList.mergeSort fun x y => !(ltOf cf) y x).toArray os :=
  AnyQ.slices_SortFunc_total Try.sortF 2 Try.isAgg60 Try.sizeOf60 enc hk h1 cf hO g #[] blk off cap d w eg hcmp hH hblk hsz hT
end Go.Proofs
