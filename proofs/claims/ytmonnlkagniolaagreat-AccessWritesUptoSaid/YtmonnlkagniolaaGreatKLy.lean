import Derived.Test.YtmonnlkagniolaaGreatChecked
import Derived.Shelf.Lay
import Derived.Shelf.Sort.Plain
import Derived.Shelf.Slices.In.SortNone
import Derived.Shelf.SlSortCmp.NoneTotal
import Derived.Ground.NamesProg
import Derived.Ground.SlsfProg
namespace Go.Proofs
open Go.Shelf
shelf_lay Lays.n189 Nm 189 at Tryz as Tryz.sortI
shelf_lay_g SlLaysF0.n6 Slsf 6 at Tryz 138 as Tryz.sortF
theorem Tryz.sortI_calls(blk off cap:Nat)(zs:List Int)(w:World)(hH:Go.Sort.Holds (Value.int .i64) w blk off zs.toArray)(hblk:blk < w.heap.size)(hsz:zs.length < 4611686018427387904):
 Calls Tryz.prog 143 #[.slice (some ⟨blk,off,none⟩) zs.length cap] w λe w'=>e= .returned (.tuple #[])/\∃n os,w'=Go.Sort.grow (Go.Sort.putRow (Value.int .i64) (Go.Sort.ahead w n) blk off (zs.mergeSort λx y=>decide (x<=y)).toArray) os:=
 Any.slices_Sort_int Tryz.sortI blk off cap zs w hH hblk hsz
theorem Tryz.sortI_none(p:Option Addr)(cap:Nat)(w:World):Calls Tryz.prog 143 #[.slice p 0 cap] w λe w'=>e= .returned (.tuple #[])/\w'=w:=Any.slices_Sort_int_none Tryz.sortI p cap w
theorem Tryz.sortF_none(p:Option Addr)(cap:Nat)(fv:Value)(w:World):Calls Tryz.prog 138 #[.slice p 0 cap,fv] w λe w'=>e= .returned (.tuple #[])/\w'=w:=AnyF.slices_SortFunc_none Tryz.sortF p cap fv w
theorem Tryz.sortF_calls{α:Type}[Inhabited α](enc:α->List Value)(hk:∀x,(enc x).length=2)(h1:∀x,∀v∈enc x,v.oneCell'=true)(cf:α->α->Int)(hO:Go.Sort.SWO (ltOf cf))(hT:∀x y,(ltOf cf) x y=false->(ltOf cf) y x=false->x=y)(g:Nat)(eg:∀args w,(callFunc g args).run Tryz.prog w= .ok (.enter g args) w)
 (blk off cap:Nat)(d:Array α)(w:World)(hcmp:CmpLays Tryz.prog g #[] enc 2 cf blk off d.size w)(hH:Go.Sort.HoldsK enc 2 w blk off d)(hblk:blk < w.heap.size)(hsz:d.size < 4611686018427387904):
 Calls Tryz.prog 138 #[.slice (some ⟨blk,off,none⟩) d.size cap,.func (.func g) #[] #[]] w λe w'=>e= .returned (.tuple #[])/\∃n os,w'=sortWorldK enc 2 w blk off n (d.toList.mergeSort λx y=>!(ltOf cf) y x).toArray os:=
 AnyQ.slices_SortFunc_total Tryz.sortF 2 Tryz.isAgg87 Tryz.sizeOf87 enc hk h1 cf hO g #[] blk off cap d w eg hcmp hH hblk hsz hT
end Go.Proofs
