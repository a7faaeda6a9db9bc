import Derived.Test.YtmonnlkagniolaaGreatPbP
set_option linter.all false
namespace Go.Pb
open Go Go.RowKit
def Reads(P:Program)(t:TypeId){α:Type}(r:TR α)(n:Nat):Prop:=∀cs,HasC P n t cs->∃a,r.R a (valC P t cs)
section
variable{P:Program}{t:TypeId}
theorem sj{d:TypeDesc}(h:P.underlying t=some d)(ha:aggD d=false)(c:PV):valC P t [c]=c:=by simp[valC,h,ha]
theorem nb{d:TypeDesc}(h:P.underlying t=some d)(ha:aggD d=true)(cs:List PV):valC P t cs= .agg cs:=by simp[valC,h,ha]
theorem io(h:P.underlying t=some (.int .i64)):∀n,Reads P t tI n
 |0=>λcs hc=>hc.elim
 |n+1=>λcs hc=>by
  simp only[HasC,h]at hc;obtain⟨m,rfl,_⟩:=hc;exact⟨m,by rw[sj h rfl];rfl⟩
theorem am6(h:P.underlying t=some .bool):∀n,Reads P t tB n
 |0=>λcs hc=>hc.elim
 |n+1=>λcs hc=>by
  simp only[HasC,h]at hc;obtain⟨m,rfl⟩:=hc;exact⟨m,by rw[sj h rfl];rfl⟩
theorem ad4(h:P.underlying t=some (.int .u32)):∀n,Reads P t cg8 n
 |0=>λcs hc=>hc.elim
 |n+1=>λcs hc=>by
  simp only[HasC,h]at hc;obtain⟨m,rfl,hw⟩:=hc;have hw:0<=m/\m < 4294967296:=by
   simp[Lit.wf,IntKind.min,IntKind.max,IntKind.signed,IntKind.bits]at hw;omega
  refine⟨BitVec.ofNat 32 m.toNat,?_⟩;rw[sj h rfl];show PV.sc (.int .u32 m)=ue _
  congr 2
  simp[BitVec.toNat_ofNat];omega
theorem pl(h:P.underlying t=some .string):∀n,Reads P t tS n
 |0=>λcs hc=>hc.elim
 |n+1=>λcs hc=>by
  simp only[HasC,h]at hc;obtain⟨s,rfl,_⟩:=hc;exact⟨s.data.toList,by rw[sj h rfl];rfl⟩
theorem wg{e:TypeId}{α:Type}{r:TR α}(h:P.underlying t=some (.slice e)){n:Nat}(hr:Reads P e r n):Reads P t (tSl r) (n+1):=λcs hc=>by
 simp only[HasC,h]at hc;rcases hc with⟨ad,rfl⟩|⟨L,rfl,hl,h2⟩
 ·rw[sj h rfl];exact⟨[],⟨[],.inl ⟨ad,O,O⟩,trivial⟩,by simp⟩
 ·rw[sj h rfl];obtain⟨l,hl2⟩:=bn1 (R:=r.R) (P:=P) (e:=e) L λds hds=>hr ds (h2 ds hds).2;refine⟨l,⟨_,.inr ⟨false,O⟩,hl2⟩,?_⟩;have:=hl2.length;rw[List.length_map]at this;rw[<-this];exact hl
theorem ff{e:TypeId}{α:Type}{r:TR α}(h:P.underlying t=some (.slice e))(hr:∀n,Reads P e r n):∀n,Reads P t (tSl r) n
 |0=>λcs hc=>hc.elim
 |n+1=>wg h (hr n)
theorem ig{fs:Array Field}{n:Nat}{cs:List PV}(h:P.underlying t=some (.struct fs))(hc:HasC P (n+1) t cs):cs.length=P.cellsOf t/\∀f∈fs.toList,HasC P n f.type ((cs.drop f.offset).take (P.cellsOf f.type)):=by
 simpa only[HasC,h]using hc
theorem af8{α:Type}{r:TR α}(hr:∀n,Reads P t r n){c:PV}(h:IsArg P t c):∃a,r.R a c:=by
 obtain⟨n,cs,h1,rfl⟩:=h;exact hr n cs h1
theorem rF{α:Type}{r:TR α}{T n:Nat}{fs:List Field}{cs:List PV}{f:Field}{c:PV}{d:TypeDesc}(hr:∀n,Reads P T r n)(hf:∀f∈fs,HasC P n f.type ((cs.drop f.offset).take (P.cellsOf f.type)))(i:Nat)(hi:fs[i]?=some f)(hT:f.type=T)(hc:P.cellsOf T=1)(e:(cs.drop f.offset).take 1=[c])(hu:P.underlying T=some d)(ha:aggD d=false):∃a,r.R a c:=by
 have q:=hf _ (List.mem_of_getElem? hi);rw[hT,hc,e]at q;obtain⟨a,h⟩:=hr n _ q;rw[sj hu ha]at h;exact⟨a,h⟩
end
end Go.Pb
