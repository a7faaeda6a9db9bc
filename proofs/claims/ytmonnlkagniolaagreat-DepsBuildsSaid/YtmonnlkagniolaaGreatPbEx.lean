import Derived.Test.YtmonnlkagniolaaGreatPbNorm
set_option linter.all false
namespace Go.Pb
open Go Go.RowKit
theorem OpD_one{P:Program}{o:AOp}{hf:Bool}{T:Nat->PV}{h:Heap}{K:PV->Heap->Prop}(H:OpD P o hf T h K):∃v h',K v h'/\∀K':PV->Heap->Prop,K' v h'->OpD P o hf T h K':=by
 unfold OpD at H;split at H
 ·rename_i hk;obtain⟨r,h1,h2⟩:=H;exact⟨r,h,h2,λK' hK=>by unfold OpD;rw[hk];exact⟨r,h1,hK⟩⟩
 ·rename_i hk;obtain⟨r,h',h1,h2⟩:=H;exact⟨r,h',h2,λK' hK=>by unfold OpD;rw[hk];exact⟨r,h',h1,hK⟩⟩
 ·rename_i hk;split at H
  ·obtain⟨g,as,h1,r,h2,h3⟩:=H;exact⟨r,h,h3,λK' hK=>by unfold OpD;rw[hk];exact⟨g,as,h1,r,h2,hK⟩⟩
  ·exact H.elim
 ·exact H.elim
theorem ah8{P:Program}:∀(l:List AOper){T:Nat->PV}{h:Heap}{K:(Nat->PV)->Heap->Prop},wpD P l T h K->∃T' h',K T' h'/\∀K':(Nat->PV)->Heap->Prop,K' T' h'->wpD P l T h K'
 |[],T,h,K,H=>⟨T,h,H,λ_ hK=>hK⟩
 |o::r,T,h,K,H=>by
  obtain⟨g,hg,h1,h2⟩:=H;cases g with
  |true=>
   obtain⟨v,h',h3,h4⟩:=OpD_one (h1 O);obtain⟨T'',h'',h5,h6⟩:=ah8 r h3;exact⟨T'',h'',h5,λK' hK=>⟨true,hg,λ_=>h4 _ (h6 K' hK),λe=>by cases e⟩⟩
  |false=>
   obtain⟨T'',h'',h5,h6⟩:=ah8 r (h2 O);exact⟨T'',h'',h5,λK' hK=>⟨false,hg,(λe=>by cases e),λ_=>h6 K' hK⟩⟩
theorem OpS_one{P:Program}{o:AOp}{hf:Bool}{T:Nat->PV}{h:Heap}{K:PV->Heap->Prop}(H:OpS P o hf T h K):∃v h',K v h'/\∀K':PV->Heap->Prop,K' v h'->OpS P o hf T h K':=by
 rcases H with H|⟨f,args,g,as,r,h',e,hc,hF,hk⟩|⟨g,as,r,h',hI,hF,hk⟩
 ·obtain⟨v,h',h1,h2⟩:=OpD_one H;exact⟨v,h',h1,λK' hK=> .inl (h2 K' hK)⟩
 ·exact⟨r,h',hk,λK' hK=> .inr (.inl ⟨f,args,g,as,r,h',e,hc,hF,hK⟩)⟩
 ·exact⟨r,h',hk,λK' hK=> .inr (.inr ⟨g,as,r,h',hI,hF,hK⟩)⟩
theorem ag8{P:Program}:∀(l:List AOper){T:Nat->PV}{h:Heap}{K:(Nat->PV)->Heap->Prop},wpS P l T h K->∃T' h',K T' h'/\∀K':(Nat->PV)->Heap->Prop,K' T' h'->wpS P l T h K'
 |[],T,h,K,⟨T',h',hw,H⟩=>⟨T',h',H,λ_ hK=>⟨T',h',hw,hK⟩⟩
 |o::r,T,h,K,⟨T1,h1,hw,g,hg,k1,k2⟩=>by
  cases g with
  |true=>
   obtain⟨v,h',h3,h4⟩:=OpS_one (k1 O);obtain⟨T'',h'',h5,h6⟩:=ag8 r h3;exact⟨T'',h'',h5,λK' hK=>⟨T1,h1,hw,true,hg,λ_=>h4 _ (h6 K' hK),λe=>by cases e⟩⟩
  |false=>
   obtain⟨T'',h'',h5,h6⟩:=ag8 r (k2 O);exact⟨T'',h'',h5,λK' hK=>⟨T1,h1,hw,false,hg,(λe=>by cases e),λ_=>h6 K' hK⟩⟩
theorem bi4{P:Program}:∀(l:List AOper){T:Nat->PV}{h:Heap}{K:(Nat->PV)->Heap->Prop},wpU P l T h K->∃T' h',K T' h'/\∀K':(Nat->PV)->Heap->Prop,K' T' h'->wpU P l T h K'
 |[],T,h,K,H=>⟨T,h,H,λ_ hK=>hK⟩
 |o::r,T,h,K,H=>by
  obtain⟨v,h',h3,h4⟩:=OpS_one H;obtain⟨T'',h'',h5,h6⟩:=bi4 r h3;exact⟨T'',h'',h5,λK' hK=>h4 _ (h6 K' hK)⟩
theorem ah1{P:Program}:∀(c:AC){T:Nat->PV}{h:Heap}{Q:Post},wpC P c Q T h->∃e T' h',Q e T' h'/\∀Q':Post,Q' e T' h'->wpC P c Q' T h:=by
 intro c;induction c with
 |skip=>intro T h Q H;exact⟨.normal,T,h,H,λ_ hQ=>hQ⟩
 |region d al=>
  intro T h Q H;rcases H with H|⟨hd,H⟩
  ·obtain⟨T',h',h1,h2⟩:=ah8 al H;exact⟨.normal,T',h',h1,λQ' hQ=> .inl (h2 _ hQ)⟩
  ·obtain⟨T',h',h1,h2⟩:=ag8 al H;exact⟨.normal,T',h',h1,λQ' hQ=> .inr ⟨hd,h2 _ hQ⟩⟩
 |regionU al=>
  intro T h Q H;obtain⟨T',h',h3,h4⟩:=bi4 al H;exact⟨.normal,T',h',h3,λQ' hQ=>h4 _ hQ⟩
 |regionT al la=>
  intro T h Q H;obtain⟨T1,h1,H1,H2⟩:=ah8 al H;obtain⟨T',h',h3,h4⟩:=ag8 [la] H1;exact⟨.normal,T',h',h3,λQ' hQ=>H2 _ (h4 _ hQ)⟩
 |seq a b iha ihb=>
  intro T h Q H;obtain⟨e,T',h',h1,h2⟩:=iha H;cases e with
  |normal=>
   obtain⟨e,T'',h'',h3,h4⟩:=ihb h1;exact⟨e,T'',h'',h3,λQ' hQ=>h2 _ (h4 Q' hQ)⟩
  |exit id=>exact⟨_,T',h',h1,λQ' hQ=>h2 _ hQ⟩
  |goto id=>exact⟨_,T',h',h1,λQ' hQ=>h2 _ hQ⟩
  |ret=>exact⟨_,T',h',h1,λQ' hQ=>h2 _ hQ⟩
  |panic id=>exact⟨_,T',h',h1,λQ' hQ=>h2 _ hQ⟩
  |outgrown=>exact⟨_,T',h',h1,λQ' hQ=>h2 _ hQ⟩
 |cond c a b iha ihb=>
  intro T h Q H;obtain⟨v,hv,h1,h2⟩:=H;cases v with
  |true=>
   obtain⟨e,T',h',h3,h4⟩:=iha (h1 O);exact⟨e,T',h',h3,λQ' hQ=>⟨true,hv,λ_=>h4 Q' hQ,λe=>by cases e⟩⟩
  |false=>
   obtain⟨e,T',h',h3,h4⟩:=ihb (h2 O);exact⟨e,T',h',h3,λQ' hQ=>⟨false,hv,(λe=>by cases e),λ_=>h4 Q' hQ⟩⟩
 |block id b ih=>
  intro T h Q H;obtain⟨e,T',h',h1,h2⟩:=ih H;cases e with
  |exit id'=>
   by_cases e:id'=id
   ·subst e;refine⟨.normal,T',h',by simpa[inBlk]using h1,λQ' hQ=>h2 _ (by simpa[inBlk]using hQ)⟩
   ·refine⟨.exit id',T',h',by simpa[inBlk,e]using h1,λQ' hQ=>h2 _ (by simpa[inBlk,e]using hQ)⟩
  |normal=>exact⟨_,T',h',h1,λQ' hQ=>h2 _ hQ⟩
  |goto id=>exact⟨_,T',h',h1,λQ' hQ=>h2 _ hQ⟩
  |ret=>exact⟨_,T',h',h1,λQ' hQ=>h2 _ hQ⟩
  |panic id=>exact⟨_,T',h',h1,λQ' hQ=>h2 _ hQ⟩
  |outgrown=>exact⟨_,T',h',h1,λQ' hQ=>h2 _ hQ⟩
 |loop b ih=>
  intro T h Q H;obtain⟨I,N,hI,hr⟩:=H;have key:∀N T h,I N T h->∃e T' h',Q e T' h'/\∀Q':Post,Q' e T' h'->wpC P (.loop b) Q' T h:=by
   intro N;induction N using Nat.strongRecOn with
   |_ N ihN=>
    intro T h hI;obtain⟨e,T',h',h1,h2⟩:=ih (hr N T h hI);have lone:∀(e:Exit),(∀K Q:Post,thenP (λT h=>K .normal T h) Q e=Q e)->Q e T' h'->(∀Q':Post,Q' e T' h'->wpC P b Q' T h)->∃e T' h',Q e T' h'/\∀Q':Post,Q' e T' h'->wpC P (.loop b) Q' T h:=by
     intro e he hq h2;refine⟨e,T',h',hq,λQ' hQ=>⟨λM T₁ h₁=>M=0/\T₁=T/\h₁=h,0,⟨O,O,O⟩,?_⟩⟩;rintro M T₁ h₁ ⟨rfl,rfl,rfl⟩;refine h2 _ ?_;have:=he (λ_ T' h'=>∃M,M < 0/\M=0/\T'=T₁/\h'=h₁) Q';rw[show(thenP (λT' h'=>∃M,M < 0/\M=0/\T'=T₁/\h'=h₁) Q') e=Q' e from this];exact hQ
    cases e with
    |normal=>
     obtain⟨M,hlt,hM⟩:=h1;obtain⟨e,T'',h'',h3,h4⟩:=ihN M hlt T' h' hM;refine⟨e,T'',h'',h3,λQ' hQ=>?_⟩;obtain⟨I2,N2,hI2,hr2⟩:=h4 Q' hQ;refine⟨λN T₁ h₁=>(N=N2+1/\T₁=T/\h₁=h)\/(N<=N2/\I2 N T₁ h₁),N2+1,.inl ⟨O,O,O⟩,?_⟩;rintro N₁ T₁ h₁ (⟨rfl,rfl,rfl⟩|⟨hle,hI₁⟩)
     ·exact h2 _ ⟨N2,by omega,.inr ⟨Nat.le_refl _,hI2⟩⟩
     ·obtain⟨e,Ta,ha,h5,h6⟩:=ih (hr2 N₁ T₁ h₁ hI₁);refine h6 _ ?_;cases e with
      |normal=>
       obtain⟨M,hM,hIM⟩:=h5;exact⟨M,hM,.inr ⟨by omega,hIM⟩⟩
      |exit id=>exact h5
      |goto id=>exact h5
      |ret=>exact h5
      |panic id=>exact h5
      |outgrown=>exact h5
    |exit id=>exact lone _ (λ_ _=>O) h1 h2
    |goto id=>exact lone _ (λ_ _=>O) h1 h2
    |ret=>exact lone _ (λ_ _=>O) h1 h2
    |panic id=>exact lone _ (λ_ _=>O) h1 h2
    |outgrown=>exact lone _ (λ_ _=>O) h1 h2
  exact key N T h hI
 |exit id=>intro T h Q H;exact⟨.exit id,T,h,H,λ_ hQ=>hQ⟩
 |ret=>intro T h Q H;exact⟨.ret,T,h,H,λ_ hQ=>hQ⟩
 |scope b ih=>
  intro T h Q H;obtain⟨e,T',h',h1,h2⟩:=ih H;cases e with
  |goto id=>exact h1.elim
  |normal=>exact⟨_,T',h',h1,λQ' hQ=>h2 _ hQ⟩
  |exit id=>exact⟨_,T',h',h1,λQ' hQ=>h2 _ hQ⟩
  |ret=>exact⟨_,T',h',h1,λQ' hQ=>h2 _ hQ⟩
  |panic id=>exact⟨_,T',h',h1,λQ' hQ=>h2 _ hQ⟩
  |outgrown=>exact⟨_,T',h',h1,λQ' hQ=>h2 _ hQ⟩
theorem FnR.mkE{P:Program}{f:FuncId}{own:List Tmp}{n np:Nat}{ac:AC}{rs:List (Tmp×Option (Nat×Bool))}(X:FnText P f own n np ac rs){args:List PV}(Φ:PV->Prop)(hn:args.length<=np)
 (hw:wpC P ac (retPost P rs λv h=>∃r,Deep P h v r/\Φ r) (tf args) ⟨0,[]⟩):∃r,FnR P f args r/\Φ r:=by
 obtain⟨e,T',h',hq,hall⟩:=ah1 ac hw;have key:∀e,retPost P rs (λv h=>∃r,Deep P h v r/\Φ r) e T' h'->∃r,Φ r/\retPost P rs (λv h=>Deep P h v r) e T' h':=by
  intro e hq;cases e with
  |normal=>obtain⟨vs,h1,r,h2,h3⟩:=hq;exact⟨r,h3,vs,h1,h2⟩
  |ret=>obtain⟨vs,h1,r,h2,h3⟩:=hq;exact⟨r,h3,vs,h1,h2⟩
  |exit id=>exact hq.elim
  |goto id=>exact hq.elim
  |panic id=>exact hq.elim
  |outgrown=>exact hq.elim
 obtain⟨r,h1,h2⟩:=key e hq;exact⟨r,FnR.mk X hn (hall _ h2),h1⟩
theorem FnX.mkE{P:Program}{f:FuncId}{own:List Tmp}{n np:Nat}{ac:AC}{rs:List (Tmp×Option (Nat×Bool))}(X:FnText P f own n np ac rs){args:List PV}{h:Heap}(Φ:PV->Heap->Prop)(hn:args.length<=np)
 (hw:wpC P ac (retPost P rs Φ) (tf args) h):∃r h',FnX P f args h r h'/\Φ r h':=by
 obtain⟨e,T',h',hq,hall⟩:=ah1 ac hw;have key:∀e,retPost P rs Φ e T' h'->∃r,Φ r h'/\retPost P rs (λv k=>v=r/\k=h') e T' h':=by
  intro e hq;cases e with
  |normal=>obtain⟨vs,h1,h2⟩:=hq;exact⟨_,h2,vs,h1,O,O⟩
  |ret=>obtain⟨vs,h1,h2⟩:=hq;exact⟨_,h2,vs,h1,O,O⟩
  |exit id=>exact hq.elim
  |goto id=>exact hq.elim
  |panic id=>exact hq.elim
  |outgrown=>exact hq.elim
 obtain⟨r,h1,h2⟩:=key e hq;exact⟨r,h',FnH.mk X hn (hall _ h2),h1⟩
theorem Acc.one{a:Nat}{e:TypeId}{h:Heap}{s:PV}{l:List PV}(H:Acc a e h s l):Pb.one s=true:=by
 rcases H.2.2 with⟨rfl,_⟩|rfl|⟨id,ver,rfl,_⟩<;>rfl
theorem Acc.len{a:Nat}{e:TypeId}{h:Heap}{s:PV}{l:List PV}(H:Acc a e h s l){P:Program}{t ty:TypeId}(ht:slcB (P.underlying t)=true):biF P .len #[t] ty [s]=some (vi l.length):=by
 rcases H.2.2 with⟨rfl,rfl⟩|rfl|⟨id,ver,rfl,_⟩
 ·exact az9 ht
 ·exact bi1 ht
 ·exact bi3 ht
theorem Acc.cons{a:Nat}{e:TypeId}{h:Heap}{s v:PV}{l:List PV}{b:Nat}(H:Acc a e h s l)(ho:Pb.one v=true)(hf:fits (1+l.length) b=true):
 ∃s' h',appendR h e 1 b (.fs true [v]) s=some (s',h')/\Acc a e h' s' (v::l)/\(∀i,i < hlen h->blk h' i=blk h i)/\hlen h<=hlen h':=by
 obtain⟨h1,h2,h3⟩:=H;have hall:(v::l).all Pb.one=true:=by simp[h2,ho]
 have hcn:l.all (λv=>cnt v==some 1)=true:=by
  rw[List.all_eq_true]at h2⊢;intro x hx;simp[tk (h2 x hx)]
 have hsrc:srcF h 1 s=some (l.length,l):=by
  rcases h3 with⟨rfl,rfl⟩|rfl|⟨id,ver,rfl,hid,hb⟩
  ·rfl
  ·simp[srcF,hcn,rk h2]
  ·simp only[blk]at hb;simp[srcF,hb]
 by_cases hl:l=[]
 ·subst hl;exact⟨.fs true [v],h,by simp[appendR,hsrc,appF],⟨h1,by simpa using hall,.inr (.inl rfl)⟩,λi _=>rfl,Nat.le_refl _⟩
 ·have hm:¬l.length=0:=by simpa using hl
  refine⟨.os (hlen h) h.nv 0 (1+l.length),hnew h (.cells h.nv e true (v::l)),?_,⟨by simp;omega,hall,.inr (.inr ⟨hlen h,h.nv,by simp[Nat.add_comm],h1,by simp⟩)⟩,λi hi=>by simp[hi],by simp⟩;simp[appendR,hsrc,appF,hl,hf,rowCells,wy ho,hlen,hnew,newBlk,tk ho]
theorem Acc.deep{a:Nat}{e:TypeId}{h:Heap}{s:PV}{l:List PV}(H:Acc a e h s l)(P:Program)(hc:closedL l=true):∃r,Deep P h s r/\IsSl r l:=H.sl P hc
end Go.Pb
