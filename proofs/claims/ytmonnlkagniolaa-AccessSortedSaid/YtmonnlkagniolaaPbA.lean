import Derived.Test.YtmonnlkagniolaaPbP
set_option linter.all false
namespace Go.Pb
open Go Go.RowKit
def Reads(P:Program)(t:TypeId){α:Type}(r:TR α)(n:Nat):Prop:=∀cs,HasC P n t cs->∃a,r.R a (valC P t cs)
section
variable{P:Program}{t:TypeId}
theorem y59q{d:TypeDesc}(h:P.underlying t=some d)(ha:aggD d=false)(c:PV):valC P t [c]=c:=by simp[valC,h,ha]
theorem val_agg{d:TypeDesc}(h:P.underlying t=some d)(ha:aggD d=true)(cs:List PV):valC P t cs= .agg cs:=by simp[valC,h,ha]
theorem y91q(h:P.underlying t=some (.int .i64)):∀n,Reads P t tI n
 |0=>λcs hc=>hc.elim
 |n+1=>λcs hc=>by
  simp only[HasC,h]at hc;obtain⟨m,rfl,_⟩:=hc;exact⟨m,by rw[y59q h rfl];rfl⟩
theorem reads_bool(h:P.underlying t=some .bool):∀n,Reads P t tB n
 |0=>λcs hc=>hc.elim
 |n+1=>λcs hc=>by
  simp only[HasC,h]at hc;obtain⟨m,rfl⟩:=hc;exact⟨m,by rw[y59q h rfl];rfl⟩
theorem reads_u32(h:P.underlying t=some (.int .u32)):∀n,Reads P t tU32 n
 |0=>λcs hc=>hc.elim
 |n+1=>λcs hc=>by
  simp only[HasC,h]at hc;obtain⟨m,rfl,hw⟩:=hc;have hw:0<=m/\m < 4294967296:=by
   simp[Lit.wf,IntKind.min,IntKind.max,IntKind.signed,IntKind.bits]at hw;omega
  refine⟨BitVec.ofNat 32 m.toNat,?_⟩;rw[y59q h rfl];show PV.sc (.int .u32 m)=vu32 _
  congr 2
  simp[BitVec.toNat_ofNat];omega
theorem reads_string(h:P.underlying t=some .string):∀n,Reads P t tS n
 |0=>λcs hc=>hc.elim
 |n+1=>λcs hc=>by
  simp only[HasC,h]at hc;obtain⟨s,rfl,_⟩:=hc;exact⟨s.data.toList,by rw[y59q h rfl];rfl⟩
theorem reads_slice{e:TypeId}{α:Type}{r:TR α}(h:P.underlying t=some (.slice e)){n:Nat}(hr:Reads P e r n):Reads P t (tSl r) (n+1):=λcs hc=>by
 simp only[HasC,h]at hc;rcases hc with⟨ad,rfl⟩|⟨L,rfl,hl,h2⟩
 ·rw[y59q h rfl];exact⟨[],⟨[],.inl ⟨ad,O,O⟩,trivial⟩,by simp⟩
 ·rw[y59q h rfl];obtain⟨l,hl2⟩:=slOf_of (R:=r.R) (P:=P) (e:=e) L λds hds=>hr ds (h2 ds hds).2;refine⟨l,⟨_,.inr ⟨false,O⟩,hl2⟩,?_⟩;have:=hl2.length;rw[List.length_map]at this;rw[<-this];exact hl
theorem y74q{e:TypeId}{α:Type}{r:TR α}(h:P.underlying t=some (.slice e))(hr:∀n,Reads P e r n):∀n,Reads P t (tSl r) n
 |0=>λcs hc=>hc.elim
 |n+1=>reads_slice h (hr n)
theorem y87q{fs:Array Field}{n:Nat}{cs:List PV}(h:P.underlying t=some (.struct fs))(hc:HasC P (n+1) t cs):cs.length=P.cellsOf t/\∀f∈fs.toList,HasC P n f.type ((cs.drop f.offset).take (P.cellsOf f.type)):=by
 simpa only[HasC,h]using hc
theorem isArg_reads{α:Type}{r:TR α}(hr:∀n,Reads P t r n){c:PV}(h:IsArg P t c):∃a,r.R a c:=by
 obtain⟨n,cs,h1,rfl⟩:=h;exact hr n cs h1
end
end Go.Pb
