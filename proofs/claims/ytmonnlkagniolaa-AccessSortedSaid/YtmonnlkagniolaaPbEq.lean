import Derived.Test.YtmonnlkagniolaaPbT
set_option linter.all false
namespace Go.Pb
open Go Go.RowKit
section
variable{P:Program}{t:TypeId}{ox oy:Operand}
theorem pr_b{α β:Type}{s:Sem α}{a:α}{f:α->Sem β}(h:pureRun P s=some a):pureRun P (s >>= f)=pureRun P (f a):=pr_bind h
theorem pr_und{d:TypeDesc}(ht:P.underlying t=some d):pureRun P (underlying t)=some d:=by simp[underlying,program,bind,Sem.bind,Sem.instMonad,pureRun,ht,pure]
theorem pr_isAgg{d:TypeDesc}{b:Bool}(ht:P.underlying t=some d)(hd:aggD d=b):pureRun P (isAgg t)=some b:=by
 unfold isAgg;rw[pr_b (pr_und ht)];subst hd;cases d<;>rfl
theorem pr_part{d:TypeDesc}{cs:Array Value}{off:Nat}{v:Value}(ht:P.underlying t=some d)(hd:aggD d=false)(hv:cs[off]?=some v):pureRun P (part t cs off)=some v:=by
 unfold part;rw[pr_b (pr_isAgg ht hd),hv];rfl
theorem pr_eqInt{k k':IntKind}{a b:Int}{n:Nat}(ht:P.underlying t=some (.int k')):pureRun P (Op.equalIn (n+1) t (.int k a) (.int k b))=some (a==b):=by
 unfold Op.equalIn;rw[pr_b (pr_und ht)];simp[pr_pure]
theorem pr_eq2{f1 f2:Field}{k1 k2:IntKind}{a b c d:Int}{n:Nat}{k1' k2':IntKind}(ht:P.underlying t=some (.struct #[f1,f2]))(hs:P.stoodInHeld t=false)(h1:P.underlying f1.type=some (.int k1'))(h2:P.underlying f2.type=some (.int k2'))(o1:f1.offset=0)(o2:f2.offset=1)(n1:(f1.name≠ "_"))(n2:f2.name≠ "_"):
 pureRun P (Op.equalIn (n+2) t (.agg #[.int k1 a,.int k2 b]) (.agg #[.int k1 c,.int k2 d]))=some (a==c&&b==d):=by
 unfold Op.equalIn;rw[pr_b (pr_und ht)];have hp:pureRun P (program)=some P:=O;have e1:∀x y:Int,pureRun P (part f1.type #[.int k1 x,.int k2 y] f1.offset)=some (.int k1 x):=λx y=>pr_part h1 O (by rw[o1];rfl);have e2:∀x y:Int,pureRun P (part f2.type #[.int k1 x,.int k2 y] f2.offset)=some (.int k2 y):=λx y=>pr_part h2 O (by rw[o2];rfl);simp only[];rw[pr_b hp];simp only[hs,Bool.false_eq_true,if_false];simp only[<-Array.forIn_toList,List.forIn_cons,List.forIn_nil,n1,n2,ne_eq,not_false_eq_true,if_true,bind_assoc,pure_bind];rw[pr_b (e1 a b),pr_b (e1 c d),pr_b (pr_eqInt h1)];by_cases hac:a=c
 ·subst hac;simp only[beq_self_eq_true,Bool.not_true,Bool.false_eq_true,if_false,pure_bind,Bool.true_and,bind_assoc];rw[pr_b (e2 a b),pr_b (e2 a d),pr_b (pr_eqInt h2)];by_cases hbd:b=d
  ·subst hbd;simp[pr_pure]
  ·have:(b==d)=false:=by simpa using hbd
   simp[this,pr_pure]
 ·have:(a==c)=false:=by simpa using hac
  simp[this,pr_pure]
theorem pr_eqGuard{cs ds:Array Value}{op:BinOp}(hg:P.eqGuardType P.depth t=false):pureRun P (eqGuard op t ox oy (.agg cs) (.agg ds))=some ():=by
 unfold eqGuard;cases op<;>first|rfl|(simp only[Bool.not_true,Bool.false_eq_true,if_false];rw[pr_b (show pureRun P program=some P from rfl),pr_b (show pureRun P program=some P from rfl),hg];rfl)
theorem rec2_eql{f1 f2:Field}{k1 k2:IntKind}{a b c d:Int}{k1' k2':IntKind}(ht:P.underlying t=some (.struct #[f1,f2]))(hs:P.stoodInHeld t=false)(hg:P.eqGuardType P.depth t=false)(h1:P.underlying f1.type=some (.int k1'))(h2:P.underlying f2.type=some (.int k2'))(o1:f1.offset=0)(o2:f2.offset=1)(n1:(f1.name≠ "_"))(n2:f2.name≠ "_"):
 binF P .eql t ox oy (.agg [.sc (.int k1 a),.sc (.int k2 b)]) (.agg [.sc (.int k1 c),.sc (.int k2 d)])=some (vb (a==c&&b==d)):=by
 have e:=pr_eq2 (P:=P) (n:=9998) (a:=a) (b:=b) (c:=c) (d:=d) (k1:=k1) (k2:=k2) ht hs h1 h2 o1 o2 n1 n2;have e':pureRun P (binOp .eql t (.agg #[.int k1 a,.int k2 b]) (.agg #[.int k1 c,.int k2 d]))=some (.bool (a==c&&b==d)):=by
  show pureRun P (Op.equal t (.agg #[.int k1 a,.int k2 b]) (.agg #[.int k1 c,.int k2 d]) >>= λq=>pure (Value.bool q))=_
  rw[pr_b (show pureRun P (Op.equal t (.agg #[.int k1 a,.int k2 b]) (.agg #[.int k1 c,.int k2 d]))=_ from e)];rfl
 simp only[binF,toV,scs,Option.map_some];rw[pr_b (pr_eqGuard hg),e'];rfl
theorem rec2_neq{f1 f2:Field}{k1 k2:IntKind}{a b c d:Int}{k1' k2':IntKind}(ht:P.underlying t=some (.struct #[f1,f2]))(hs:P.stoodInHeld t=false)(hg:P.eqGuardType P.depth t=false)(h1:P.underlying f1.type=some (.int k1'))(h2:P.underlying f2.type=some (.int k2'))(o1:f1.offset=0)(o2:f2.offset=1)(n1:(f1.name≠ "_"))(n2:f2.name≠ "_"):
 binF P .neq t ox oy (.agg [.sc (.int k1 a),.sc (.int k2 b)]) (.agg [.sc (.int k1 c),.sc (.int k2 d)])=some (vb (!(a==c&&b==d))):=by
 have e:=pr_eq2 (P:=P) (n:=9998) (a:=a) (b:=b) (c:=c) (d:=d) (k1:=k1) (k2:=k2) ht hs h1 h2 o1 o2 n1 n2;have e':pureRun P (binOp .neq t (.agg #[.int k1 a,.int k2 b]) (.agg #[.int k1 c,.int k2 d]))=some (.bool (!(a==c&&b==d))):=by
  show pureRun P (Op.equal t (.agg #[.int k1 a,.int k2 b]) (.agg #[.int k1 c,.int k2 d]) >>= λq=>pure (Value.bool (!q)))=_
  rw[pr_b (show pureRun P (Op.equal t (.agg #[.int k1 a,.int k2 b]) (.agg #[.int k1 c,.int k2 d]))=_ from e)];rfl
 simp only[binF,toV,scs,Option.map_some];rw[pr_b (pr_eqGuard hg),e'];rfl
end
end Go.Pb
namespace Go.Pb
open Go Go.RowKit
section
variable{P:Program}{t:TypeId}{ox oy:Operand}
end
end Go.Pb
