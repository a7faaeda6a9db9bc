import Derived.Test.YtmonnlkagniolaaGreatL12Text
import Derived.Test.YtmonnlkagniolaaGreatKMuUm
import Derived.Test.YtmonnlkagniolaaGreatPbC
import Derived.Test.YtmonnlkagniolaaGreatKMuUm
set_option linter.unusedVariables false
set_option linter.unusedSimpArgs false
set_option maxRecDepth 100000
namespace Go.Proofs.YtmonnlkagniolaaGreat
open Go Go.Pb Go.RowKit
theorem bk9{h:Heap}{L L':List Ent}(M:Mem h L)(p:L.Perm L'):Mem h L':=
 ⟨λe he=>M.ent e (p.mem_iff.2 he),(p.pairwise_iff λha=>ha.symm).1 M.dis⟩
theorem eg8{h:Heap}{e:Ent}{L R:List Ent}(M:Mem h (e::(L++R))):Mem h (L++(e::R)):=bk9 M List.perm_middle.symm
theorem zm{h:Heap}{e:Ent}{L R:List Ent}(M:Mem h (L++(e::R))):Mem h (e::(L++R)):=bk9 M List.perm_middle
theorem az4{P:Program}{S:List Fr}{Q:Post}{E:TEnv}{h:Heap}{r:List AOper}{hf:Bool}{d t:Nat}{b w:Bool}{f:Operand}{args:List Operand}{g:FuncId}{az cap:List PV}{v:PV}{h':Heap}(hg:Go.Pb.look t E=some (vb b))(hb:b=w)(ef:evE E f=some (.fn (.func g) [] cap))(ea:evL E args=some az)(H:FnX P g (az++cap) h v h')(k:RS P r S Q ((d,v)::E) h'):RS P (⟨some d,.call f args,some (t,w),hf⟩::r) S Q E h:=λT hT=>by
 subst hb;refine⟨T,h,Wk.refl T h,true,?_,λ_=> .inr (.inl ⟨f,args,g,az++cap,v,h',O,by rw[gg hT ef,um hT ea];simp[callee],H,k _ (hT.put d v)⟩),λe=>by cases e⟩;show guardF T (some (t,b))=some true
 simp only[guardF];rw[hT t _ hg];simp
def VIS(P:Program){σ:Type}(g:FuncId)(caps:List PV)(step:ae->σ->Bool×σ)(ME:Nat->σ->List Ent->Prop)(G:ae->Prop):Prop:=
 ∀(k:Nat)(a:ae)(va:PV)(s:σ)(L R:List Ent)(h:Heap),G a->ae.t.R a va->ME (k+1) s L->Mem h (L++R)->∃h2 L2,FnX P g ([va]++caps) h (vb (step a s).1) h2/\ME k (step a s).2 L2/\Mem h2 (L2++R)
def VPRE{σ:Type}(g:FuncId)(caps:List PV)(step:ae->σ->Bool×σ)(ME:Nat->σ->List Ent->Prop)(c:List ae):Prop:=
 ∀(k:Nat)(vc:PV)(s:σ)(L R:List Ent)(h:Heap),(tSl ae.t).R c vc->ME (csl c+k) s L->Mem h (L++R)->∃h2 L2,FnX Tryz.prog 196 [vc,.fn (.func g) [] caps] h (vb (preL step c s).1) h2/\ME k (preL step c s).2 L2/\Mem h2 (L2++R)
section
variable{σ:Type}{g:FuncId}{caps:List PV}{step:ae->σ->Bool×σ}{ME:Nat->σ->List Ent->Prop}{G:ae->Prop}
theorem monoN(mono:∀k s L,ME (k+1) s L->ME k s L){k:Nat}{s:σ}{L:List Ent}:∀j,ME (k+j) s L->ME k s L
 |0,h=>h
 |j+1,h=>monoN mono j (mono _ _ _ h)
theorem ck6(mono:∀k s L,ME (k+1) s L->ME k s L)(HV:VIS Tryz.prog g caps step ME G){c:List ae}{vc:PV}(rc:(tSl ae.t).R c vc)(hG:∀x∈poL c,G x)(IH:∀c',csl c' < csl c->(∀x∈poL c',G x)->VPRE g caps step ME c'){R:List Ent}{k:Nat}{S:List Fr}{res:Bool×σ}
 (hK0:∀(h:Heap)(L:List Ent),ME k res.2 L->res.1=true->Mem h (L++R)->PX Tryz.prog 0 S (retPost Tryz.prog [(4,none)] λr h'=>∃L2,r=vb res.1/\ME k res.2 L2/\Mem h' (L2++R)) [] h):
 ∀(m:Nat)(i:Int)(s:σ)(L:List Ent)(h:Heap),m=Int.toNat ((c.length:Int)-i)->0<=i->ME (csl (c.drop i.toNat)+k) s L->Mem h (L++R)->preL step (c.drop i.toNat) s=res->
  RC Tryz.prog (.loop ah0) S (retPost Tryz.prog [(4,none)] λr h'=>∃L2,r=vb res.1/\ME k res.2 L2/\Mem h' (L2++R)) [(9,vi i),(8,vi (c.length:Int)),(7,vc),(1,.fn (.func g) [] caps)] h:=by
 have hbd:=df rc;intro m;induction m with
 |zero=>
  intro i s L h hm h0 hM M hres;have hd:c.drop i.toNat=[]:=List.drop_eq_nil_of_le V;rw[hd,ce9]at hres;rw[hd]at hM;refine cg ?_;unfold ah0;refine am ?_;refine ax ?_;refine ah (ct O O cx) ?_;refine bq ?_;refine aq ?_;refine am ?_;refine bv O (λhc=>?_) (λhc=>?_)
  ·exfalso;simp only[decide_eq_true_eq]at hc;omega
  ·refine dl ?_;refine ee ?_;refine dh ?_;subst hres;refine zn (pu _) (hK0 _ L ?_ O M);simpa[csl]using hM
 |succ m ih=>
  intro i s L h hm h0 hM M hres;have h1:i < c.length:=by omega
  have hd:=aq1 h0 h1;rw[hd,bz5]at hres;have hb:ME (csl (ix c i).Then+(csl (ix c i).Else+(csl (c.drop (i+1).toNat)+k))+1) s L:=by
   rw[hd,csl,au6]at hM;rw[show csl (ix c i).Then+(csl (ix c i).Else+(csl (c.drop (i+1).toNat)+k))+1=1+csl (ix c i).Then+csl (ix c i).Else+csl (c.drop (i+1).toNat)+k by omega];exact hM
  have hlt:=kt h0 h1;refine cg ?_;unfold ah0;refine am ?_;refine ax ?_;refine ah (ct O O cx) ?_;refine bq ?_;refine aq ?_;refine am ?_;refine bv O (λhc=>?_) (λhc=>?_)
  ·refine bc ?_;refine aq ?_;refine am ?_;refine bm ?_;refine am ?_;refine ax ?_;obtain⟨v1,e1,r1⟩:=dn (i:=i) rc h0 h1;refine ah (bn O O e1) ?_;refine ah (cp O (TR.cnt ae.t r1) (TR.agg ae.t r1)) ?_;refine dz (x:= .agg [vi 0,vi 0,nilS,nilS,nilS]) M O O (λia wa ha Ma=>?_);refine dm (k:=0) (v:=v1) Ma O O O (TR.cnt ae.t r1) (λhb1 Mb=>?_);replace Mb:Mem hb1 (⟨.op ia wa 0,180,5,[v1]⟩::(L++R)):=Mb;refine bq ?_;refine aq ?_;refine am ?_;refine fc ?_;refine bw ?_;refine ah (ba O) ?_;refine bz ?_;refine bw ?_;refine ah (af9 O (mb (k:=0) Mb O (TR.agg ae.t r1))) ?_;refine bz ?_;have hn1:∀y∈poN (ix c i),y∈poL c:=λy hy=>aq2 (am2 h0 h1) hy;rw[ak4]at hn1;obtain⟨h2,L2,X2,E2,M2⟩:=HV _ _ _ s L _ hb1 (hG _ (hn1 _ List.mem_cons_self)) r1 hb (eg8 Mb);have X2':FnX Tryz.prog g ([v1]++caps) hb1 (vb (step (ix c i) s).1) h2:=X2;rw[cx8]at hres;generalize hst:step (ix c i) s=st at*;obtain⟨b1,s1⟩:=st;refine fy (azq:=[v1]) O O X2' ?_;refine bw ?_;refine ah (v:=vb (!b1)) (co0 O O) ?_;refine bz ?_;refine bw ?_;refine ah (ba O) ?_;refine bz ?_;cases b1 with
   |false=>
    simp only[Bool.false_eq_true,if_false]at hres;unfold av2 as5;simp only[List.cons_append,List.nil_append];refine bw (fx (b:=true) O O (bz ?_));refine bw (fx (b:=true) O O (bz ?_));refine bw (fx (b:=true) O O (bz ?_));refine bw (fx (b:=true) O O (bz ?_));refine bw (fx (b:=true) O O (bz ?_));refine bw (ah (v:=vb true) (oo O O O O) (bz ?_));refine bw (ah (ba O) (bz ?_));refine bw (fx (b:=true) O O (bz ?_));refine bw (fx (b:=true) O O (bz ?_));refine bw (fx (b:=true) O O (bz ?_));refine bw (fx (b:=true) O O (bz ?_));refine bw (fx (b:=true) O O (bz ?_));refine bw (ah (v:=vb true) (oo O O O O) (bz ?_));refine ja ?_;refine aq ?_;refine bv O (λ_=>?_) (λhc=>by cases hc);refine am ?_;refine ax ?_;refine ah (v:=vb false) (ba O) ?_;refine bq ?_;refine aq ?_;subst hres;refine pw (.tmp O .nil) ⟨L2,O,?_,?_⟩
    ·exact monoN mono (csl (ix c i).Then+(csl (ix c i).Else+csl (c.drop (i+1).toNat))) (by rw[show k+(csl (ix c i).Then+(csl (ix c i).Else+csl (c.drop (i+1).toNat)))=csl (ix c i).Then+(csl (ix c i).Else+(csl (c.drop (i+1).toNat)+k)) by omega];exact E2)
    ·exact Mem.sub (zm M2) (.cons _ (List.Sublist.refl _))
   |true=>
    simp only[if_true]at hres;unfold av2 as5;simp only[List.cons_append,List.nil_append];have M2o:=zm M2;refine bw (aj (b:=false) O O (bh O) (bz ?_));obtain⟨v2,e2,r2⟩:=ae.g_Then r1;refine bw (aj (b:=false) O O (ci (k:=0) M2o O O e2) (bz ?_));refine bw (aj (b:=false) O O (ba O) (bz ?_));obtain⟨h3,L3,X3,E3,M3⟩:=IH _ hlt.1 (λx hx=>hG x (hn1 x (List.mem_cons_of_mem _ (List.mem_append_left _ hx)))) _ v2 s1 L2 _ h2 r2 E2 M2;generalize hp1:preL step (ix c i).Then s1=p1 at*;obtain⟨b2,s2⟩:=p1;refine az4 (b:=false) (az:=[v2,.fn (.func g) [] caps]) (cap:=[]) O O O O X3 ?_;refine bw (aj (b:=false) (v:=vb (!b2)) O O (co0 O O) (bz ?_));refine bw (ah (v:=vb (!b2)) (oo O O O (by cases b2<;>rfl)) (bz ?_));refine bw (ah (ba O) (bz ?_));cases b2 with
    |false=>
     simp only[Bool.false_eq_true,if_false]at hres;refine bw (fx (b:=true) O O (bz ?_));refine bw (fx (b:=true) O O (bz ?_));refine bw (fx (b:=true) O O (bz ?_));refine bw (fx (b:=true) O O (bz ?_));refine bw (fx (b:=true) O O (bz ?_));refine bw (ah (v:=vb true) (oo O O O O) (bz ?_));refine ja ?_;refine aq ?_;refine bv O (λ_=>?_) (λhc=>by cases hc);refine am ?_;refine ax ?_;refine ah (v:=vb false) (ba O) ?_;refine bq ?_;refine aq ?_;subst hres;refine pw (.tmp O .nil) ⟨L3,O,?_,?_⟩
     ·exact monoN mono (csl (ix c i).Else+csl (c.drop (i+1).toNat)) (by rw[show k+(csl (ix c i).Else+csl (c.drop (i+1).toNat))=csl (ix c i).Else+(csl (c.drop (i+1).toNat)+k) by omega];exact E3)
     ·exact Mem.sub (zm M3) (.cons _ (List.Sublist.refl _))
    |true=>
     simp only[if_true]at hres;have M3o:=zm M3;refine bw (aj (b:=false) O O (bh O) (bz ?_));obtain⟨v3,e3,r3⟩:=ae.g_Else r1;refine bw (aj (b:=false) O O (ci (k:=0) M3o O O e3) (bz ?_));refine bw (aj (b:=false) O O (ba O) (bz ?_));obtain⟨h4,L4,X4,E4,M4⟩:=IH _ hlt.2 (λx hx=>hG x (hn1 x (List.mem_cons_of_mem _ (List.mem_append_right _ hx)))) _ v3 s2 L3 _ h3 r3 E3 M3;generalize hp2:preL step (ix c i).Else s2=p2 at*;obtain⟨b3,s3⟩:=p2;refine az4 (b:=false) (az:=[v3,.fn (.func g) [] caps]) (cap:=[]) O O O O X4 ?_;refine bw (aj (b:=false) (v:=vb (!b3)) O O (co0 O O) (bz ?_));refine bw (ah (v:=vb (!b3)) (oo O O O (by cases b3<;>rfl)) (bz ?_));refine ja ?_;refine aq ?_;cases b3 with
     |false=>
      simp only[Bool.false_eq_true,if_false]at hres;refine bv O (λ_=>?_) (λhc=>by cases hc);refine am ?_;refine ax ?_;refine ah (v:=vb false) (ba O) ?_;refine bq ?_;refine aq ?_;subst hres;refine pw (.tmp O .nil) ⟨L4,O,?_,?_⟩
      ·exact monoN mono (csl (c.drop (i+1).toNat)) (by rw[Nat.add_comm];exact E4)
      ·exact Mem.sub (zm M4) (.cons _ (List.Sublist.refl _))
     |true=>
      simp only[if_true]at hres;refine bv O (λhc=>by cases hc) (λ_=>?_);refine bc ?_;refine de ?_;refine aq ?_;refine ax ?_;refine ah (ct O O dt) ?_;refine ah (ba O) ?_;refine bq ?_;refine cy ?_;have hinc:wr (i+1)=i+1:=db V V;rw[hinc];refine rv ?_ (ih (i+1) s3 L4 _ V V E4 (Mem.sub (zm M4) (.cons _ (List.Sublist.refl _))) hres);exact((fb O (fb O (fb O (fb O (pu _))))))
  ·exfalso;simp only[decide_eq_false_iff_not]at hc;omega
theorem av0(mono:∀k s L,ME (k+1) s L->ME k s L)(HV:VIS Tryz.prog g caps step ME G):∀(n:Nat)(c:List ae),csl c < n->(∀x∈poL c,G x)->VPRE g caps step ME c
 |0,c,hn,_=>by omega
 |n+1,c,hn,hG=>by
  intro k vc s L R h rc hM M;have IH:∀c',csl c' < csl c->(∀x∈poL c',G x)->VPRE g caps step ME c':=λc' hc hg=>av0 mono HV n c' V hg;obtain⟨res,hres⟩:∃res,preL step c s=res:=⟨_,O⟩;suffices H:RC Tryz.prog cl2 [] (retPost Tryz.prog [(4,none)] λr h'=>∃L2,r=vb res.1/\ME k res.2 L2/\Mem h' (L2++R)) (argE 0 [vc,.fn (.func g) [] caps]) h by
   obtain⟨r,h2,X,L2,hr,hE,hM2⟩:=fnX da1 OZ H;rw[hres];subst hr;exact⟨h2,L2,X,hE,hM2⟩
  unfold cl2;refine am ?_;refine ax ?_;refine ah (v:=vb false) (ba O) ?_;refine bq ?_;refine aq ?_;refine am ?_;refine am ?_;refine ax ?_;refine ah (ba O) ?_;refine ah (da O (co rc Tryz.underlying28 _)) ?_;refine ah (v:=vi 0) (ba O) ?_;refine bq ?_;refine aq ?_;refine bm ?_;refine rv ?_ (ck6 mono HV rc hG IH (k:=k) ?_ (Int.toNat ((c.length:Int)-0)) 0 s L h O V hM M hres)
  ·exact((fb O (fb O (fb O (fb O (pu _))))))
  ·intro h2 L2 hE ht M2;refine em ?_;refine aq ?_;refine am ?_;refine ax ?_;refine ah (v:=vb true) (ba O) ?_;refine bq ?_;refine aq ?_;exact pw (.tmp O .nil) ⟨L2,by rw[ht];rfl,hE,M2⟩
end
theorem cn4(ad:Option Addr)(ox oy:Operand):∃b,binF Tryz.prog .eql 33 ox oy (.sc (.slice ad 0 0)) nilS=some (vb b):=by
 cases ad with
 |none=>exact⟨true,by kernel_rfl⟩
 |some a=>exact⟨false,by cases a;kernel_rfl⟩
theorem ct6(tg:Bool)(es:List PV)(ox oy:Operand):binF Tryz.prog .eql 33 ox oy (.fs tg es) nilS=some (vb false):=O
theorem bh4{l:List bd}{v:PV}(r:(tSl bd.t).R l v)(ox oy:Operand):∃b,binF Tryz.prog .eql 33 ox oy v nilS=some (vb b)/\(b=true->l=[]):=by
 obtain⟨⟨es,he,hl⟩,hb⟩:=r;rcases he with⟨ad,rfl,rfl⟩|⟨tg,rfl⟩
 ·obtain⟨b,h⟩:=cn4 ad ox oy;refine⟨b,h,λ_=>?_⟩;cases l with
  |nil=>rfl
  |cons _ _=>simp[All2]at hl
 ·exact⟨false,ct6 tg es ox oy,λh=>by cases h⟩
def RF128x(R_:List Ent)(res:List bd)(r:PV)(h:Heap):Prop:=∃asR0_:PV,∃esR0_:List PV,Mem h (⟨asR0_,102,2,esR0_⟩::R_)/\(All2 bd.t.R res esR0_)/\(isL asR0_=true)/\(res.length<=4611686018427387904)/\(Wri asR0_ esR0_)/\r=asR0_
theorem cm2{x0:List bd}{v0:PV}{R_:List Ent}{h_:Heap}(r0:(tSl bd.t).R x0 v0)(M_:Mem h_ R_)(hb:x0.length<=2000000):∃r h2_,FnX Tryz.prog 128 [v0] h_ r h2_/\RF128x R_ (fi x0) r h2_:=by
 suffices H:RC Tryz.prog bm1 [] (retPost Tryz.prog [(2,none)] (RF128x R_ x0)) (argE 0 [v0]) h_ by
  exact fnX bs7 OZ H
 unfold bm1;refine am ?_;refine ax ?_;refine ah (v:=nilS) (ba O) ?_;refine bq ?_;refine aq ?_;refine am ?_;refine am ?_;refine ax ?_;refine ah (ba O) ?_;obtain⟨b,e1,e2⟩:=bh4 r0 (.tmp 3) (.const (.slice none 0 0));refine ah (ct O O e1) ?_;refine bq ?_;refine aq ?_;refine bv O (λhc=>?_) (λhc=>?_)
 ·have hx:=e2 hc;refine am ?_;refine ax ?_;refine ah (v:=nilS) (ba O) ?_;refine bq ?_;refine aq ?_;have MA:=my (sz:=2) (es:=[]) M_ 102 (.inl ⟨none,O,O⟩) OZ;exact pw (.tmp O .nil) ⟨nilS,[],MA,by rw[hx];exact trivial,O,by omega,.inl rfl,rfl⟩
 ·refine bc ?_;refine aq ?_;refine am ?_;refine ax ?_;refine ah (v:= .fs true []) (fk O iy) ?_;refine ah (ba O) ?_;have MA:=my (sz:=2) (es:=[]) M_ 102 (.inr O) OZ;obtain⟨nw,sr,ar⟩:=kv (t:=bd.t) (h:=h_) r0;have ff:fits (([]:List PV).length+nw.length) 16=true:=by rw[All2.length_eq ar];(try simp only[List.length_cons,List.length_nil]);exact ii V V
  refine jc (k:=0) (es:=([]:List PV)) (news:=nw) MA O O O O (.inl O) sr ff (λa h n wr M=>?_);refine ah (ba O) ?_;refine bq ?_;refine aq ?_;exact pw (.tmp O .nil) ⟨a,_,M,ar,n,by omega,wr,rfl⟩
theorem dj5{x0:List bd}{v0:PV}(r0:(tSl bd.t).R x0 v0)(hb:x0.length<=2000000):∃r,FnR Tryz.prog 128 [v0] r/\(tSl bd.t).R (fi x0) r:=by
 suffices H:RC Tryz.prog bm1 [] (QR Tryz.prog [(2,none)] (λr=>(tSl bd.t).R x0 r)) (argE 0 [v0]) ⟨0,[]⟩ by
  exact fnE bs7 OZ H
 unfold bm1;refine am ?_;refine ax ?_;refine ah (v:=nilS) (ba O) ?_;refine bq ?_;refine aq ?_;refine am ?_;refine am ?_;refine ax ?_;refine ah (ba O) ?_;obtain⟨b,e1,e2⟩:=bh4 r0 (.tmp 3) (.const (.slice none 0 0));refine ah (ct O O e1) ?_;refine bq ?_;refine aq ?_;refine bv O (λhc=>?_) (λhc=>?_)
 ·have hx:=e2 hc;refine am ?_;refine ax ?_;refine ah (v:=nilS) (ba O) ?_;refine bq ?_;refine aq ?_;exact ft (.tmp O .nil) (du O) (by rw[hx];exact fm)
 ·refine bc ?_;refine aq ?_;refine am ?_;refine ax ?_;refine ah (v:= .fs true []) (fk O iy) ?_;refine ah (ba O) ?_;have MA:=my (sz:=2) (es:=[]) (Mem.nil ⟨0,[]⟩) 102 (.inr O) OZ;obtain⟨nw,sr,ar⟩:=kv (t:=bd.t) (h:=⟨0,[]⟩) r0;have ff:fits (([]:List PV).length+nw.length) 16=true:=by rw[All2.length_eq ar];(try simp only[List.length_cons,List.length_nil]);exact ii V V
  refine jc (k:=0) (es:=([]:List PV)) (news:=nw) MA O O O O (.inl O) sr ff (λa h n wr M=>?_);refine ah (ba O) ?_;refine bq ?_;refine aq ?_;obtain⟨v1,d1,r1⟩:=py (P:=Tryz.prog) (k:=0) (t:=bd.t) M O n ar (Nat.le_trans (show x0.length<=4611686018427387904 by omega) OO);exact ft (.tmp O .nil) d1 r1
theorem cs0(ad:Option Addr)(ox oy:Operand):∃b,binF Tryz.prog .eql 32 ox oy (.sc (.slice ad 0 0)) nilS=some (vb b):=by
 cases ad with
 |none=>exact⟨true,by kernel_rfl⟩
 |some a=>exact⟨false,by cases a;kernel_rfl⟩
theorem do2(tg:Bool)(es:List PV)(ox oy:Operand):binF Tryz.prog .eql 32 ox oy (.fs tg es) nilS=some (vb false):=O
theorem ck4{l:List ai}{v:PV}(r:(tSl ai.t).R l v)(ox oy:Operand):∃b,binF Tryz.prog .eql 32 ox oy v nilS=some (vb b)/\(b=true->l=[]):=by
 obtain⟨⟨es,he,hl⟩,hb⟩:=r;rcases he with⟨ad,rfl,rfl⟩|⟨tg,rfl⟩
 ·obtain⟨b,h⟩:=cs0 ad ox oy;refine⟨b,h,λ_=>?_⟩;cases l with
  |nil=>rfl
  |cons _ _=>simp[All2]at hl
 ·exact⟨false,do2 tg es ox oy,λh=>by cases h⟩
def RF129x(R_:List Ent)(res:List ai)(r:PV)(h:Heap):Prop:=∃asR0_:PV,∃esR0_:List PV,Mem h (⟨asR0_,113,3,esR0_⟩::R_)/\(All2 ai.t.R res esR0_)/\(isL asR0_=true)/\(res.length<=4611686018427387904)/\(Wri asR0_ esR0_)/\r=asR0_
theorem db7{x0:List ai}{v0:PV}(r0:(tSl ai.t).R x0 v0)(hb:x0.length<=2000000):∃r,FnR Tryz.prog 129 [v0] r/\(tSl ai.t).R (kd x0) r:=by
 suffices H:RC Tryz.prog ci9 [] (QR Tryz.prog [(2,none)] (λr=>(tSl ai.t).R x0 r)) (argE 0 [v0]) ⟨0,[]⟩ by
  exact fnE de0 OZ H
 unfold ci9;refine am ?_;refine ax ?_;refine ah (v:=nilS) (ba O) ?_;refine bq ?_;refine aq ?_;refine am ?_;refine am ?_;refine ax ?_;refine ah (ba O) ?_;obtain⟨b,e1,e2⟩:=ck4 r0 (.tmp 3) (.const (.slice none 0 0));refine ah (ct O O e1) ?_;refine bq ?_;refine aq ?_;refine bv O (λhc=>?_) (λhc=>?_)
 ·have hx:=e2 hc;refine am ?_;refine ax ?_;refine ah (v:=nilS) (ba O) ?_;refine bq ?_;refine aq ?_;exact ft (.tmp O .nil) (du O) (by rw[hx];exact fm)
 ·refine bc ?_;refine aq ?_;refine am ?_;refine ax ?_;refine ah (v:= .fs true []) (fk O iy) ?_;refine ah (ba O) ?_;have MA:=my (sz:=3) (es:=[]) (Mem.nil ⟨0,[]⟩) 113 (.inr O) OZ;obtain⟨nw,sr,ar⟩:=kv (t:=ai.t) (h:=⟨0,[]⟩) r0;have ff:fits (([]:List PV).length+nw.length) 24=true:=by rw[All2.length_eq ar];(try simp only[List.length_cons,List.length_nil]);exact ii V V
  refine jc (k:=0) (es:=([]:List PV)) (news:=nw) MA O O O O (.inl O) sr ff (λa h n wr M=>?_);refine ah (ba O) ?_;refine bq ?_;refine aq ?_;obtain⟨v1,d1,r1⟩:=py (P:=Tryz.prog) (k:=0) (t:=ai.t) M O n ar (Nat.le_trans (show x0.length<=4611686018427387904 by omega) OO);exact ft (.tmp O .nil) d1 r1
end Go.Proofs.YtmonnlkagniolaaGreat
