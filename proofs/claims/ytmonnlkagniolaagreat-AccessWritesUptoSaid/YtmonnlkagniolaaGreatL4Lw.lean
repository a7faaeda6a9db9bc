/-
 From a plain law to its function.
-/
import Derived.Test.YtmonnlkagniolaaGreatL4Rd
import Derived.Test.YtmonnlkagniolaaGreatL4W15
set_option linter.all false
set_option maxRecDepth 100000
namespace Go.Proofs.YtmonnlkagniolaaGreat
open Go Go.Pb Go.RowKit
theorem AccessWrites_row(H:∀(a0:aa)(a1:Int)(a2:dj)(hs:csl a0.Control<=1048576)(hE:EB a2.Env)(hR:RB a2.Registers),nk a0 a1 a2=true)(css:List PV)(h:All2 (λt c=>IsArg Tryz.prog t c) [31,3,50] css)(hw:wtL css<=1048576):FnR Tryz.prog 4 css (.sc (.bool true)):=by
 match css,h with
 |[c0,c1,c2],⟨h0,h1,h2,_⟩=>
 obtain⟨a0,r0⟩:=fb1 h0;obtain⟨a1,r1⟩:=fl7 h1;obtain⟨a2,r2⟩:=fh0 h2;have r1:c1=vi a1:=r1;subst r1;have f:=fc7 r0 (x1:=a1) r2 (by(simp only[wtL]at hw;first|(have hk:=bc8 r0;omega)|exact(zg r2 Y).1|exact(zg r2 Y).2)) (by(simp only[wtL]at hw;first|(have hk:=bc8 r0;omega)|exact(zg r2 Y).1|exact(zg r2 Y).2)) (by(simp only[wtL]at hw;first|(have hk:=bc8 r0;omega)|exact(zg r2 Y).1|exact(zg r2 Y).2));rw[H _ _ _ (by(simp only[wtL]at hw;first|(have hk:=bc8 r0;omega)|exact(zg r2 Y).1|exact(zg r2 Y).2)) (by(simp only[wtL]at hw;first|(have hk:=bc8 r0;omega)|exact(zg r2 Y).1|exact(zg r2 Y).2)) (by(simp only[wtL]at hw;first|(have hk:=bc8 r0;omega)|exact(zg r2 Y).1|exact(zg r2 Y).2))]at f;exact f
end Go.Proofs.YtmonnlkagniolaaGreat
