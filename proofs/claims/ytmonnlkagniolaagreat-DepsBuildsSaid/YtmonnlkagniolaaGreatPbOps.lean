import Derived.Test.YtmonnlkagniolaaGreatPbList
set_option linter.all false
namespace Go.Pb
open Go Go.RowKit
inductive AOp where
 |move (x:Operand)
 |pick (c a b:Operand)
 |bin (op:BinOp) (t:TypeId) (x y:Operand)
 |un (op:UnOp) (x:Operand)
 |conv (s d:TypeId) (x:Operand)
 |load (sz:Nat) (agg:Bool) (x:Operand)
 |faddr (off sz:Nat) (agg:Bool) (x:Operand)
 |field (off sz:Nat) (agg:Bool) (x:Operand)
 |iaddr (sz:Nat) (x i:Operand)
 |iaddrA (len sz:Nat) (agg:Bool) (x i:Operand)
 |indexA (len sz:Nat) (agg:Bool) (x i:Operand)
 |indexS (t:TypeId) (x i:Operand)
 |bi (b:Builtin) (ats:Array TypeId) (ty:TypeId) (args:List Operand)
 |extract (x:Operand) (i:Nat)
 |box (own:Bool) (t:TypeId) (x:Operand)
 |alloc (own:Bool) (t:TypeId) (zero:Value)
 |build (zero:List Value) (parts:List (Nat×Nat×Operand))
 |bslice (own:Bool) (e:TypeId) (sz:Nat) (zero:Bool) (parts:List Operand)
 |slice (t:TypeId) (sz:Nat) (x:Operand) (lo hi mx:Option Operand)
 |sliceS (t:TypeId) (x:Operand) (lo hi mx:Option Operand)
 |nilCheck (x:Operand)
 |mkIface (t:TypeId) (x:Operand)
 |mkFunc (f:Fn) (first captured:List Operand)
 |store (sz:Nat) (x v:Operand)
 |mkSlice (e:TypeId) (sz bytes:Nat) (zero:Value) (l c:Operand)
 |append (t e:TypeId) (sz bytes:Nat) (s x:Operand)
 |call (f:Operand) (args:List Operand)
 |invoke (x:Operand) (name:String) (args:List Operand)
 |mkMap (t:TypeId)
 |lookup (t k e:TypeId) (zero:Value) (ok:Bool) (x i:Operand)
 |mapUpdate (t k:TypeId) (m i v:Operand)
 |copy (t e:TypeId) (sz:Nat) (x y:Operand)
 |tassert (t:TypeId) (ok:Bool) (x:Operand)
 |clr (sz:Nat) (zero:Value) (x:Operand)
 deriving Inhabited
def partsAt(P:Program)(fs:Array Field):List (Nat×Operand)->Option (List (Nat×Nat×Operand))
 |[]=>some []
 |(i,x)::r=>do
  let f<-fs[i]?
  let n<-P.info? f.type
  let r<-partsAt P fs r
  pure ((f.offset,n.size,x)::r)
def partsAtA(len sz:Nat):List (Nat×Operand)->Option (List (Nat×Nat×Operand))
 |[]=>some []
 |(i,x)::r=>do
  if len<=i then none else
  let r<-partsAtA len sz r
  pure ((i*sz,sz,x)::r)
def partsRow:Nat->List (Nat×Operand)->Option (List Operand)
 |_,[]=>some []
 |k,(i,x)::r=>if i=k then(partsRow (k+1) r).map (x::·)else none
def compOp(P:Program)(own:List Tmp)(dst:Option Tmp)(ty:TypeId):Op->Option AOp
 | .move x| .assign x=>some (.move x)
 | .pick c a b=>some (.pick c a b)
 | .binOp op t x y _=>some (.bin op t x y)
 | .unOp op _ x=>some (.un op x)
 | .convert s d x=>some (.conv s d x)
 | .load t x=>do
   let i<-P.info? t
   let d<-P.underlying t
   if aggD d=false/\i.size≠1 then none else
   pure (.load i.size (aggD d) x)
 | .fieldAddr s x f=>match P.underlying s with
   |some (.struct fs)=>do
    let f<-fs[f]?
    let i<-P.info? f.type
    let d<-P.underlying f.type
    if i.size=0 then none else
    pure (.faddr f.offset i.size (aggD d) x)
   |_=>none
 | .field s x f=>match P.underlying s with
   |some (.struct fs)=>do
    let f<-fs[f]?
    let i<-P.info? f.type
    let d<-P.underlying f.type
    if aggD d=false/\i.size≠1 then none else
    pure (.field f.offset i.size (aggD d) x)
   |_=>none
 | .indexAddr t x i=>match P.underlying t with
   |some (.slice e)=>do
    let n<-P.info? e
    pure (.iaddr n.size x i)
   |some (.array len e)=>do
    let n<-P.info? e
    let d<-P.underlying e
    pure (.iaddrA len n.size (aggD d) x i)
   |_=>none
 | .index t x i=>match P.underlying t with
   |some .string=>some (.indexS t x i)
   |some (.array len e)=>do
    let n<-P.info? e
    let d<-P.underlying e
    if aggD d=false/\n.size≠1 then none else
    pure (.indexA len n.size (aggD d) x i)
   |_=>none
 | .extract x i=>some (.extract x i)
 | .box t x=>some (.box (dst.any (own.contains ·)) t x)
 | .alloc t=>do
   let i<-P.info? t
   let z<-i.zero
   pure (.alloc (dst.any (own.contains ·)) t z)
 | .build t parts=>do
   let i<-P.info? t
   let z<-i.zero
   match P.underlying t,z with
   |some (.struct fs),.agg cs=>do
    let ps<-partsAt P fs parts.toList
    if cs.toList.all (·.oneCell')/\fs.toList.all (λf=>(P.info? f.type).isSome)then pure (.build cs.toList ps)else none
   |some (.array len e),.agg cs=>do
    let n<-P.info? e
    let ps<-partsAtA len n.size parts.toList
    if cs.toList.all (·.oneCell')then pure (.build cs.toList ps)else none
   |_,_=>none
 | .buildSlice t len parts=>match P.underlying t with
   |some (.slice e)=>do
    let n<-P.info? e
    let z<-n.zero
    let ps<-partsRow 0 parts.toList
    if ps.length=len/\len*n.size<=16777216/\len<=16777216/\z.cells.size=n.size then pure (.bslice (dst.any (own.contains ·)) e n.size (n.size==0) ps)else none
   |_=>none
 | .slice t x lo hi mx=>match P.underlying t with
   |some .string=>some (.sliceS t x lo hi mx)
   |some (.slice e)=>do
    let n<-P.info? e
    pure (.slice t n.size x lo hi mx)
   |_=>none
 | .nilCheck x=>some (.nilCheck x)
 | .makeInterface t x=>match P.underlying t with
   |some (.interface _)=>none
   |some _=>some (.mkIface t x)
   |none=>none
 | .makeFunc f first captured=>some (.mkFunc f first.toList captured.toList)
 | .store t x v=>do
   let i<-P.info? t
   pure (.store i.size x v)
 | .makeSlice t l c=>match P.underlying t with
   |some (.slice e)=>do
    let n<-P.info? e
    let z<-n.zero
    if z.cells.size=n.size/\0 < n.size/\z.cells.toList.all (·.oneCell')then pure (.mkSlice e n.size n.bytes z l c)else none
   |_=>none
 | .makeMap t none=>match P.underlying t with
   |some (.map _ _)=>some (.mkMap t)
   |_=>none
 | .lookup t x i ok=>match P.underlying t with
   |some (.map k e)=>do
    let n<-P.info? e
    let z<-n.zero
    match P.underlying k with
    |some (.int _)=>pure (.lookup t k e z ok x i)
    |_=>some (.copy 0 0 0 (.const (.bool false)) (.const (.bool false)))
   |_=>none
 | .mapUpdate t m i v=>match P.underlying t with
   |some (.map k _)=>match P.underlying k with
    |some (.int _)=>some (.mapUpdate t k m i v)
    |_=>some (.copy 0 0 0 (.const (.bool false)) (.const (.bool false)))
   |_=>none
 | .typeAssert x _ t ok=>match P.underlying t with
   |some (.interface _)=>none
   |some _=>some (.tassert t ok x)
   |none=>none
 | .call c=>match c.callee with
   | .value f=>some (.call f c.args.toList)
   | .invoke x name=>some (.invoke x name c.args.toList)
   | .builtin .append=>match c.argTypes[0]?,c.argTypes[1]?,c.args.toList with
     |some t,some t',[s,x]=>match P.underlying t,P.underlying t' with
      |some (.slice e),some (.slice e')=>do
       let n<-P.info? e
       let z<-n.zero
       if t'=t/\z.cells.size=n.size/\0 < n.size/\c.argTypes.size=2 then pure (.append t e n.size n.bytes s x)else none
      |_,_=>none
     |_,_,_=>none
   | .builtin .copy=>match c.argTypes[0]?,c.args.toList with
     |some t,[x,y]=>match P.underlying t with
      |some (.slice e)=>do
       let n<-P.info? e
       pure (.copy t e n.size x y)
      |_=>none
     |_,_=>none
   | .builtin .clear=>match c.argTypes[0]?,c.args.toList with
     |some t,[x]=>match P.underlying t with
      |some (.slice e)=>do
       let n<-P.info? e
       let z<-n.zero
       if z.cells.size=n.size/\0 < n.size/\z.cells.toList.all (·.oneCell')then pure (.clr n.size z x)else none
      |_=>some (.copy 0 0 0 (.const (.bool false)) (.const (.bool false)))
     |_,_=>some (.copy 0 0 0 (.const (.bool false)) (.const (.bool false)))
   | .builtin .len=>some (.bi .len c.argTypes ty c.args.toList)
   | .builtin .max=>some (.bi .max c.argTypes ty c.args.toList)
   | .builtin .min=>some (.bi .min c.argTypes ty c.args.toList)
   | .builtin .cap=>some (.bi .cap c.argTypes ty c.args.toList)
   |_=>some (.copy 0 0 0 (.const (.bool false)) (.const (.bool false)))
 |_=>none
def nilVs:TypeDesc->PV->PV->Bool
 | .slice _,.sc (.slice none _ _),.fs _ _| .slice _,.fs _ _,.sc (.slice none _ _)| .slice _,.sc (.slice none _ _),.os _ _ _ _| .slice _,.os _ _ _ _,.sc (.slice none _ _)=>true
 | .pointer _,.sc (.pointer none),.fp _| .pointer _,.fp _,.sc (.pointer none)| .pointer _,.sc (.pointer none),.op _ _ _| .pointer _,.op _ _ _,.sc (.pointer none)=>true
 | .func _ _ _,.sc .nilFunc,.fn _ _ _| .func _ _ _,.fn _ _ _,.sc .nilFunc=>true
 | .interface _,.sc .nilIface,.ifc _ _| .interface _,.ifc _ _,.sc .nilIface=>true
 | .map _ _,.sc (.map none),.om _ _| .map _ _,.om _ _,.sc (.map none)=>true
 |_,_,_=>false
def binF(P:Program)(op:BinOp)(t:TypeId)(ox oy:Operand)(x y:PV):Option PV:=
 match toV x,toV y with
 |some a,some b=>(pureRun P (do eqGuard op t ox oy a b;binOp op t a b)).map .ofConst
 |_,_=>match P.underlying t,op with
  |some d,.eql=>if nilVs d x y then some (.sc (.bool false))else none
  |some d,.neq=>if nilVs d x y then some (.sc (.bool true))else none
  |_,_=>none
def biF(P:Program)(b:Builtin)(ats:Array TypeId)(ty:TypeId)(xs:List PV):Option PV:=
 match toVs xs with
 |some vs=>match b with
  | .len=>(pureRun P (Builtin.len_ ats ty vs.toArray)).map .ofConst
  | .max=>(pureRun P (Builtin.max_ ats ty vs.toArray)).map .ofConst
  | .min=>(pureRun P (Builtin.min_ ats ty vs.toArray)).map .ofConst
  |_=>none
 |none=>match b,xs,(ats[0]?).bind P.underlying with
  | .len,[.fs _ es],some (.slice _)=>some (.sc (.int .i64 es.length))
  | .len,[.os _ _ _ n],some (.slice _)=>some (.sc (.int .i64 n))
  | .len,[_],some (.array n _)=>some (.sc (.int .i64 n))
  |_,_,_=>none
def spl(zs:List PV)(off:Nat)(cs:List PV):List PV:=zs.take off++(cs++zs.drop (off+cs.length))
def buildF(T:Nat->PV):List PV->List (Nat×Nat×Operand)->Option (List PV)
 |zs,[]=>some zs
 |zs,(off,sz,o)::r=>match(ev T o).cellsOf with
  |some cs=>if cs.length=sz/\off+sz<=zs.length then buildF T (spl zs off cs) r else none
  |none=>none
def boundF(T:Nat->PV)(d:Nat):Option Operand->Option Nat
 |none=>some d
 |some o=>match ev T o with
  | .sc (.int _ n)=>if 0<=n then some n.toNat else none
  |_=>none
def boundM(T:Nat->PV):Option Operand->Option (Option Nat)
 |none=>some none
 |some m=>(boundF T 0 (some m)).map some
def optV(T:Nat->PV):Option Operand->Option (Option Value)
 |none=>some none
 |some o=>(toV (ev T o)).map some
def okMaxF(u len:Nat)(hi:Bool):Option Nat->Bool
 |none=>true
 |some m=>decide (u<=m/\m<=len)&&hi
def okMaxO(l u:Nat)(hi:Bool):Option Nat->Bool
 |none=>true
 |some m=>decide (u=m/\l=u)&&hi
def tightF(tight:Bool)(u len:Nat):Option Nat->Bool
 |none=>tight&&(u==len)
 |some m=>u==m
def opQ(P:Program)(T:Nat->PV)(h:Heap):AOp->Option PV
 | .move x=>some (ev T x)
 | .pick c a b=>match ev T c with
   | .sc (.bool v)=>some (bif v then ev T a else ev T b)
   |_=>none
 | .bin op t x y=>binF P op t x y (ev T x) (ev T y)
 | .un op x=>match toV (ev T x)with
   |some a=>(pureRun P (Op.unary op a)).map .ofConst
   |none=>none
 | .conv s d x=>match toV (ev T x)with
   |some a=>(pureRun P (convert s d a)).map .ofConst
   |none=>none
 | .load sz agg x=>match ev T x with
   | .fp v=>if cnt v=some sz/\v.isAgg=agg then some v else none
   | .op id ver off=>match h.bl[id]? with
     |some (.cells ver' _ _ cs)=>if ver'=ver then fieldOf off sz agg cs else none
     |_=>none
   |_=>none
 | .faddr off sz agg x=>match ev T x with
   | .fp (.agg cs)=>(fieldOf off sz agg cs).map .fp
   | .op id ver o=>some (.op id ver (o+off))
   |_=>none
 | .field off sz agg x=>match ev T x with
   | .agg cs=>fieldOf off sz agg cs
   |_=>none
 | .iaddr sz x i=>match ev T x,ev T i with
   | .fs _ es,.sc (.int _ k)=>if 0<=k/\k < es.length then(match es[k.toNat]? with|some e=>if cnt e=some sz then some (.fp e)else none|none=>none)else none
   | .os id ver off n,.sc (.int _ k)=>if 0<=k/\k < n then some (.op id ver (off+k.toNat*sz))else none
   |_,_=>none
 | .iaddrA len sz agg x i=>match ev T x,ev T i with
   | .fp (.agg cs),.sc (.int _ k)=>if 0<=k/\k < len then(fieldOf (k.toNat*sz) sz agg cs).map .fp else none
   | .op id ver off,.sc (.int _ k)=>if 0<=k/\k < len then some (.op id ver (off+k.toNat*sz))else none
   |_,_=>none
 | .indexA len sz agg x i=>match ev T x,ev T i with
   | .agg cs,.sc (.int _ k)=>if 0<=k/\k < len then fieldOf (k.toNat*sz) sz agg cs else none
   |_,_=>none
 | .indexS t x i=>match toV (ev T x),toV (ev T i)with
   |some a,some b=>(pureRun P (Instr.index t a b)).map .ofConst
   |_,_=>none
 | .bi b ats ty args=>biF P b ats ty (args.map (ev T))
 | .extract x i=>match ev T x with
   | .tup vs=>vs[i]?
   |_=>none
 | .box false t x=>(ev T x).cellsOf.map λ_=> .fp (ev T x)
 | .alloc false t z=>(PV.ofConst z).cellsOf.map λ_=> .fp (.ofConst z)
 | .build zs parts=>(buildF T (zs.map .sc) parts).map .agg
 | .bslice false e sz z parts=>if(parts.map (ev T)).all (λv=>cnt v==some sz)then some (.fs true (parts.map (ev T)))else none
 | .slice t sz x lo hi mx=>match ev T x with
   | .fs tight es=>match boundF T 0 lo,boundF T es.length hi,boundM T mx with
     |some l,some u,some m=>
      if l<=u/\u<=es.length/\okMaxF u es.length hi.isSome m=true/\es.all (λv=>cnt v==some sz)=true
      then some (.fs (tightF tight u es.length m) ((es.drop l).take (u-l)))else none
     |_,_,_=>none
   | .os id ver off n=>match boundF T 0 lo,boundF T n hi,boundM T mx with
     |some l,some u,some m=>
      if l<=u/\u<=n/\0 < sz/\okMaxO l u hi.isSome m=true
      then some (if l=u then .fs m.isSome []else .os id ver (off+l*sz) (u-l))else none
     |_,_,_=>none
   |v=>match toV v,optV T lo,optV T hi,optV T mx with
    |some a,some l,some u,some m=>(pureRun P (Instr.slice t a l u m)).map .ofConst
    |_,_,_,_=>none
 | .sliceS t x lo hi mx=>match toV (ev T x),optV T lo,optV T hi,optV T mx with
    |some a,some l,some u,some m=>(pureRun P (Instr.slice t a l u m)).map .ofConst
    |_,_,_,_=>none
 | .nilCheck x=>match ev T x with
   | .fp v=>some (.fp v)
   | .op id ver off=>some (.op id ver off)
   | .fn (.func f) a b=>some (.fn (.func f) a b)
   |_=>none
 | .mkIface t x=>some (.ifc t (ev T x))
 | .mkFunc f a b=>some (.fn f (a.map (ev T)) (b.map (ev T)))
 | .tassert t ok x=>match ev T x with
   | .ifc u v=>if u=t then some (if ok then .tup [v,.sc (.bool true)]else v)else none
   |_=>none
 |_=>none
end Go.Pb
