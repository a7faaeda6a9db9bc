import Derived.Test.YtmonnlkagniolaaGreatPbK
set_option linter.all false
namespace Go.Pb
open Go Go.RowKit
section
variable{P:Program}{S:List Fr}{Q:Post}{E:TEnv}{h:Heap}{hf:Bool}{L:List Ent}{r:List AOper}{ty:TypeId}{sz:Nat}
theorem by3{v:PV}(h:closed v=true):closed (.fp v)=true:=h
theorem bl2{α β:Type}{ta:TR α}{tb:TR β}{g:α->β}{id:FuncId}{caps:List PV}(hc:closedL caps=true)(H:∀a va,ta.R a va->∃vr,FnR P id (va::caps) vr/\tb.R (g a) vr):(tFn P ta tb).R g (.fn (.func id) [] caps):=
 ⟨id,[],caps,rfl,rfl,hc,H⟩
def sub{α:Type}(l:List α)(a b:Int):List α:=(l.drop a.toNat).take (b.toNat-a.toNat)
theorem wo{α:Type}{l:List α}{a b:Int}(h0:0<=a)(h1:a<=b)(h2:b<=(l.length:Int)):((sub l a b).length:Int)=b-a:=by
 simp only[sub,List.length_take,List.length_drop];omega
theorem All2.drop{α:Type}{R:α->PV->Prop}:∀{l:List α}{es:List PV}(k:Nat),All2 R l es->All2 R (l.drop k) (es.drop k)
 |_,_,0,h=>h
 |[],[],k+1,h=>by simpa using h
 |a::l,e::es,k+1,h=>by simpa using All2.drop k h.2
 |[],_::_,_+1,h=>by simp[All2]at h
 |_::_,[],_+1,h=>by simp[All2]at h
theorem All2.take{α:Type}{R:α->PV->Prop}:∀{l:List α}{es:List PV}(k:Nat),All2 R l es->All2 R (l.take k) (es.take k)
 |_,_,0,h=>by simp[All2]
 |[],[],k+1,h=>by simpa using h
 |a::l,e::es,k+1,h=>by simpa[All2]using⟨h.1,All2.take k h.2⟩
 |[],_::_,_+1,h=>by simp[All2]at h
 |_::_,[],_+1,h=>by simp[All2]at h
def Bnd(E:TEnv)(d:Int)(o:Option Operand)(a:Int):Prop:=match o with
 |none=>a=d
 |some o=>evE E o=some (vi a)
theorem Bnd.eq{E:TEnv}{T:Nat->PV}{d:Nat}{o:Option Operand}{a:Int}(H:Bnd E d o a)(hT:Ag E T)(h0:0<=a):boundF T d o=some a.toNat:=by
 cases o with
 |none=>have e:a=d:=H;subst e;simp[boundF]
 |some o=>have e:evE E o=some (vi a):=H;simp[boundF,fy hT e,h0]
theorem Bnd.opt{E:TEnv}{T:Nat->PV}{d:Int}{o:Option Operand}(H:Bnd E d o 0)(hT:Ag E T):optV T o=some (o.map λ_=> .int .i64 0):=by
 cases o with
 |none=>rfl
 |some o=>have e:evE E o=some (vi 0):=H;simp[optV,fy hT e,toV]
theorem at4{α:Type}{t:TR α}{l:List α}{v:PV}{x:Operand}{lo hi:Option Operand}{a b:Int}{tt:TypeId}(r:(tSl t).R l v)(ex:evE E x=some v)(ha:Bnd E 0 lo a)(hb:Bnd E l.length hi b)(h0:0<=a)(h1:a<=b)(h2:b<=(l.length:Int))
 (hn:∀ad,pureRun P (Instr.slice tt (.slice ad 0 0) (lo.map λ_=> .int .i64 0) (hi.map λ_=> .int .i64 0) none)=some (.slice ad 0 0)):∃w,OV P (.slice tt t.sz x lo hi none) hf E h w/\(tSl t).R (sub l a b) w:=by
 obtain⟨⟨es,he,hl⟩,hbd⟩:=r;rcases he with⟨ad,rfl,rfl⟩|⟨tg,rfl⟩
 ·have:l=[]:=by cases l with
   |nil=>rfl
   |cons _ _=>simp[All2]at hl
  subst this;simp only[List.length_nil,Int.natCast_zero]at h2;have ea:a=0:=by omega
  have eb:b=0:=by omega
  subst ea eb;refine⟨.sc (.slice ad 0 0),⟨O,λT hT=>?_⟩,⟨[],.inl ⟨ad,O,O⟩,by simp[sub,All2]⟩,by simp[sub]⟩;have e4:optV T none=some none:=O;simp only[opQ,fy hT ex,toV,Bnd.opt ha hT,Bnd.opt hb hT,e4,hn ad];rfl
 ·have hlen:=hl.length;refine⟨.fs (tightF tg b.toNat es.length none) ((es.drop a.toNat).take (b.toNat-a.toNat)),⟨O,λT hT=>?_⟩,⟨_,.inr ⟨_,O⟩,(hl.drop _).take _⟩,by simp[sub];omega⟩;have e1:boundF T 0 lo=some a.toNat:=ha.eq hT h0;have e2:boundF T es.length hi=some b.toNat:=by rw[hlen];exact hb.eq hT V
  have e3:es.all (λv=>cnt v==some t.sz)=true:=by rw[List.all_eq_true];intro e he;simp[hl.cnt e he]
  simp only[opQ,fy hT ex,e1,e2,boundM];rw[if_pos ⟨by omega,by omega,rfl,e3⟩]
theorem yn{x i:Operand}{id ver len sz:Nat}{agg:Bool}{k:Int}(ex:evE E x=some (.op id ver 0))(ei:evE E i=some (vi k))(h0:0<=k)(h1:k < len):OV P (.iaddrA len sz agg x i) hf E h (.op id ver (0+k.toNat*sz)):=⟨O,λT hT=>by
 simp only[opQ,fy hT ex,fy hT ei];rw[if_pos ⟨h0,h1⟩]⟩
theorem cd2{n:Nat}{α:Type}{t:TR α}[Inhabited α]{l:List α}{v:PV}{i:Int}(H:(tAr n t).R l v)(h0:0<=i)(h1:i < n):∃e,fieldR (i.toNat*t.sz) t.sz t.ag v=some e/\t.R (ix l i) e:=by
 obtain⟨cs,e,rfl,h2,h3⟩:=af2 H h0 h1;exact⟨e,h2,h3⟩
theorem ao8{n:Nat}{α:Type}{t:TR α}{l:List α}{v:PV}{i:Int}(H:(tAr n t).R l v)(h0:0<=i)(h1:i < n){a:α}{va:PV}(ra:t.R a va){ds:List PV}(hd:va.cellsOf=some ds):
 ∃cs,v= .agg cs/\(ds.length=t.sz/\i.toNat*t.sz+ds.length<=cs.length)/\(tAr n t).R (l.set i.toNat a) (.agg (spl cs (i.toNat*t.sz) ds)):=by
 obtain⟨hl,es,cs,h2,h3,rfl⟩:=H;obtain⟨ds',h4,h5⟩:=mg (t.cnt ra);rw[hd]at h4;simp only[Option.some.injEq]at h4;subst h4;obtain⟨cs',h6,h7⟩:=nt h2.cnt;rw[h3]at h6;simp only[Option.some.injEq]at h6;subst h6;have hlen:=h2.length;have hle:i.toNat*t.sz+t.sz<=es.length*t.sz:=by
  rw[<-Nat.succ_mul];exact Nat.mul_le_mul_right _ V
 exact⟨cs,O,⟨h5,by omega⟩,by simp[hl],es.set i.toNat va,_,h2.set ra,uj h2.cnt h3 V hd h5,rfl⟩
theorem aj3{o o':Operand}{id ver off n:Nat}{cs ds:List PV}{x v:PV}{k:Nat}(M:Mem h L)(eo:evE E o=some (.op id ver (0+off)))(ev':evE E o'=some v)(hk:L[k]?=some ⟨.op id ver 0,ty,sz,[x]⟩)(hx:x= .agg cs)(hv:v.cellsOf=some ds)(hn:ds.length=n)(hl:off+ds.length<=cs.length)
 (K:∀h',Mem h' (L.set k ⟨.op id ver 0,ty,sz,[.agg (spl cs off ds)]⟩)->RD P r S Q E h'):RD P (⟨none,.store n o o',none,hf⟩::r) S Q E h:=by
 subst hx;exact jh M eo ev' hk hv hn hl K
theorem Mem.front{k:Nat}{e:Ent}(M:Mem h L)(hk:L[k]?=some e):Mem h (e::L.eraseIdx k):=by
 refine⟨λe' he'=>?_,?_⟩
 ·rcases List.mem_cons.1 he' with rfl|he'
  ·exact M.at hk
  ·exact M.ent e' ((List.eraseIdx_sublist ..).subset he')
 ·refine List.pairwise_cons.2 ⟨λe' he'=>?_,M.dis.sublist (List.eraseIdx_sublist ..)⟩;obtain⟨j,hj⟩:=List.getElem?_of_mem he';rw[List.getElem?_eraseIdx]at hj;have hjk:∃j,j≠k/\L[j]?=some e':=by
   split at hj
   ·exact⟨j,by omega,hj⟩
   ·exact⟨j+1,by omega,hj⟩
  obtain⟨j,hne,hj⟩:=hjk;exact rh M.dis hk hne hj
theorem tc{k:Nat}{v:PV}{es:List PV}(M:Mem h L)(hk:L[k]?=some ⟨v,ty,sz,es⟩)(hne:isL v=true):cnt v=some 1:=by
 have hv:=(M.atF hk).2;cases v with
 |os id ver off n=>rfl
 |fs t es'=>rfl
 |sc u=>rfl
 |_=>first|exact hv.elim|(simp[isL]at hne)
theorem gu{d:Nat}{f:Operand}{args:List Operand}{g:FuncId}{as cap:List PV}{v:PV}{h':Heap}(ef:evE E f=some (.fn (.func g) [] cap))(ea:evL E args=some as)(H:FnX P g (as++cap) h v h')(k:RS P r S Q ((d,v)::E) h'):RS P (⟨some d,.call f args,none,hf⟩::r) S Q E h:=λT hT=>
 ⟨T,h,Wk.refl T h,true,rfl,λ_=> .inr (.inl ⟨f,args,g,as++cap,v,h',rfl,by rw[fy hT ef,tx hT ea];simp[callee],H,k _ (hT.put d v)⟩),λe=>by cases e⟩
theorem fnX{f:FuncId}{own:List Tmp}{n np:Nat}{ac:AC}{rs:List (Tmp×Option (Nat×Bool))}(X:FnText P f own n np ac rs){args:List PV}{Φ:PV->Heap->Prop}(hn:args.length<=np)
 (H:RC P ac [] (retPost P rs Φ) (argE 0 args) h):∃r h',FnX P f args h r h'/\Φ r h':=by
 refine FnX.mkE X Φ hn ?_;exact H (tf args) (av0 args 0 _ λj a hj=>by simp[tf,List.getD_eq_getElem?_getD,hj])
theorem tr{rs:List (Tmp×Option (Nat×Bool))}{Φ:PV->Heap->Prop}{vs:List PV}(e:ResV E h rs vs)(hr:Φ (retV vs) h):RC P .ret S (retPost P rs Φ) E h:=λT hT=>by
 rw[cc1];exact⟨vs,e.ok hT,hr⟩
theorem ah9{rs:List (Tmp×Option (Nat×Bool))}{Φ:PV->Heap->Prop}{vs:List PV}(e:ResV E h rs vs)(hr:Φ (retV vs) h):PN P [] (retPost P rs Φ) E h:=λT hT=>by
 rw[dd2];exact⟨vs,e.ok hT,hr⟩
def lastK(P:Program)(la:AOper)(S:List Fr)(Q:Post):Fr:= .loop λT h=>runS P [la] S Q T h
theorem aj1{al:List AOper}{la:AOper}(k:RD P al (lastK P la S Q::S) Q E h):RC P (.regionT al la) S Q E h:=k
theorem ba5{la:AOper}(k:RS P [la] S Q E h):PN P (lastK P la S Q::S) Q E h:=k
def runX(P:Program)(al:List AOper)(S:List Fr)(Q:Post)(T:Nat->PV)(h:Heap):Prop:=wpU P al T h (asPost P S Q .normal)
def RX(P:Program)(l:List AOper)(S:List Fr)(Q:Post)(E:TEnv)(h:Heap):Prop:=∀T,Ag E T->runX P l S Q T h
theorem be5{al:List AOper}(k:RX P al S Q E h):RC P (.regionU al) S Q E h:=k
theorem di5(k:PN P S Q E h):RX P [] S Q E h:=k
def bx(P:Program)(r:List AOper)(S:List Fr)(Q:Post):Fr:= .loop λT h=>runX P r S Q T h
theorem bv0{o:AOper}{K:(Nat->PV)->Heap->Prop}{T:Nat->PV}(hg:o.guard=none)(H:wpD P [o] T h λT h=>wpU P r T h K):wpU P (o::r) T h K:=by
 obtain⟨g,hg',h1,h2⟩:=H;rw[hg]at hg';simp only[guardF,Option.some.injEq]at hg';subst hg';exact .inl (h1 O)
theorem pv{d:Option Tmp}{op:AOp}(k:RD P [⟨d,op,none,hf⟩] (bx P r S Q::S) Q E h):RX P (⟨d,op,none,hf⟩::r) S Q E h:=λT hT=>bv0 O (k T hT)
theorem pq(k:RX P r S Q E h):RD P [] (bx P r S Q::S) Q E h:=k
theorem ae4{d:Nat}{f:Operand}{args:List Operand}{g:FuncId}{as cap:List PV}{v:PV}{h':Heap}(ef:evE E f=some (.fn (.func g) [] cap))(ea:evL E args=some as)(H:FnX P g (as++cap) h v h')(k:RX P r S Q ((d,v)::E) h'):RX P (⟨some d,.call f args,none,hf⟩::r) S Q E h:=λT hT=>
 .inr (.inl ⟨f,args,g,as++cap,v,h',rfl,by rw[fy hT ef,tx hT ea];simp[callee],H,k _ (hT.put d v)⟩)
theorem yi{k:Nat}{id ver:Nat}{x:PV}{l:List AOper}{E':TEnv}(M:Mem h L)(hk:L[k]?=some ⟨.op id ver 0,ty,sz,[x]⟩)(hE:FrzE (.op id ver 0) (.fp x) E E')(K:∀h',Mem h' (L.eraseIdx k)->RS P l S Q E' h'):RS P l S Q E h:=by
 obtain⟨hc,x',cs,h1,h2,h3⟩:=M.atF hk;simp only[List.cons.injEq,and_true]at h1;subst h1;have hM:Mem (hput h id (.cells ver ty false cs)) (L.eraseIdx k):=by
  refine⟨λe he=>?_,M.dis.sublist (List.eraseIdx_sublist ..)⟩;obtain⟨j,hj⟩:=List.getElem?_of_mem he;rw[List.getElem?_eraseIdx]at hj;have hjk:∃j,j≠k/\L[j]?=some e:=by
   split at hj
   ·exact⟨j,by omega,hj⟩
   ·exact⟨j+1,by omega,hj⟩
  obtain⟨j,hne,hj⟩:=hjk;refine(M.ent e (List.mem_of_getElem? hj)).frame λi hi _=>?_;have ha:=rh M.dis hk hne hj;exact pa h id i _ λe'=>ha i (by simp[idOf,e']) hi
 intro T hT;refine at0 (T':=λt=>match look t E' with|some u=>u|none=>T t) (h':=hput h id (.cells ver ty false cs)) ?_ (K _ hM _ λt u e=>by simp only[e]);intro w0 F0 n' z a R hTm;obtain⟨y,ew,eJ,Ex,hF,R'⟩:=R.freeze h3;refine⟨y,ew,Ex,R',hTm.size,λt=>?_,hTm.defers⟩;have h0:=VR_ext Ex (hTm.at_ t);split
 ·rename_i u hu;obtain⟨w,h5,h4⟩:=hE t u hu;rw[hT t w h5]at h0;have hb:∀us,VRC P y (.op id ver 0) us->VRC P y (.fp x) us:=λus hv=>by
   have hone:∃u,us=[u]:=by
    simp only[VRC]at hv;obtain⟨b,_,e⟩:=hv;exact⟨_,e⟩
   obtain⟨u,rfl⟩:=hone;exact VR_frozenp (u:=u) R' (vd h id _ (qt h3)) (λb hj=>hF b (by rw[<-eJ];exact hj)) h2 hv
  have:=h4.agg_eq O;unfold VR at h0⊢;rw[<-this];exact AsVal.imp (h4.conv hb) h0
 ·exact h0
end
end Go.Pb
