import Derived.Test.YtmonnlkagniolaaGreatPbT
set_option linter.all false
namespace Go.Pb
open Go Go.RowKit
section
variable{P:Program}{t:TypeId}{ox oy:Operand}
theorem pr_b{α β:Type}{s:Sem α}{a:α}{f:α->Sem β}(h:pureRun P s=some a):pureRun P (s >>= f)=pureRun P (f a):=at3 h
theorem ai8{d:TypeDesc}(ht:P.underlying t=some d):pureRun P (underlying t)=some d:=by simp[underlying,program,bind,Sem.bind,Sem.instMonad,pureRun,ht,pure]
theorem bv2{d:TypeDesc}{b:Bool}(ht:P.underlying t=some d)(hd:aggD d=b):pureRun P (isAgg t)=some b:=by
 unfold isAgg;rw[pr_b (ai8 ht)];subst hd;cases d<;>rfl
theorem ai7{d:TypeDesc}{cs:Array Value}{off:Nat}{v:Value}(ht:P.underlying t=some d)(hd:aggD d=false)(hv:cs[off]?=some v):pureRun P (part t cs off)=some v:=by
 unfold part;rw[pr_b (bv2 ht hd),hv];rfl
theorem aj6{k k':IntKind}{a b:Int}{n:Nat}(ht:P.underlying t=some (.int k')):pureRun P (Op.equalIn (n+1) t (.int k a) (.int k b))=some (a==b):=by
 unfold Op.equalIn;rw[pr_b (ai8 ht)];simp[uk]
theorem bz5{f1 f2:Field}{k1 k2:IntKind}{a b c d:Int}{n:Nat}{k1' k2':IntKind}(ht:P.underlying t=some (.struct #[f1,f2]))(hs:P.stoodInHeld t=false)(h1:P.underlying f1.type=some (.int k1'))(h2:P.underlying f2.type=some (.int k2'))(o1:f1.offset=0)(o2:f2.offset=1)(n1:(f1.name≠ "_"))(n2:f2.name≠ "_"):
 pureRun P (Op.equalIn (n+2) t (.agg #[.int k1 a,.int k2 b]) (.agg #[.int k1 c,.int k2 d]))=some (a==c&&b==d):=by
 unfold Op.equalIn;rw[pr_b (ai8 ht)];have hp:pureRun P (program)=some P:=O;have e1:∀x y:Int,pureRun P (part f1.type #[.int k1 x,.int k2 y] f1.offset)=some (.int k1 x):=λx y=>ai7 h1 O (by rw[o1];rfl);have e2:∀x y:Int,pureRun P (part f2.type #[.int k1 x,.int k2 y] f2.offset)=some (.int k2 y):=λx y=>ai7 h2 O (by rw[o2];rfl);simp only[];rw[pr_b hp];simp only[hs,Bool.false_eq_true,if_false];simp only[<-Array.forIn_toList,List.forIn_cons,List.forIn_nil,n1,n2,ne_eq,not_false_eq_true,if_true,bind_assoc,pure_bind];rw[pr_b (e1 a b),pr_b (e1 c d),pr_b (aj6 h1)];by_cases hac:a=c
 ·subst hac;simp only[beq_self_eq_true,Bool.not_true,Bool.false_eq_true,if_false,pure_bind,Bool.true_and,bind_assoc];rw[pr_b (e2 a b),pr_b (e2 a d),pr_b (aj6 h2)];by_cases hbd:b=d
  ·subst hbd;simp[uk]
  ·have:(b==d)=false:=by simpa using hbd
   simp[this,uk]
 ·have:(a==c)=false:=by simpa using hac
  simp[this,uk]
theorem uv{cs ds:Array Value}{op:BinOp}(hg:P.eqGuardType P.depth t=false):pureRun P (eqGuard op t ox oy (.agg cs) (.agg ds))=some ():=by
 unfold eqGuard;cases op<;>first|rfl|(simp only[Bool.not_true,Bool.false_eq_true,if_false];rw[pr_b (show pureRun P program=some P from rfl),pr_b (show pureRun P program=some P from rfl),hg];rfl)
theorem bv4{f1 f2:Field}{k1 k2:IntKind}{a b c d:Int}{k1' k2':IntKind}(ht:P.underlying t=some (.struct #[f1,f2]))(hs:P.stoodInHeld t=false)(hg:P.eqGuardType P.depth t=false)(h1:P.underlying f1.type=some (.int k1'))(h2:P.underlying f2.type=some (.int k2'))(o1:f1.offset=0)(o2:f2.offset=1)(n1:(f1.name≠ "_"))(n2:f2.name≠ "_"):
 binF P .eql t ox oy (.agg [.sc (.int k1 a),.sc (.int k2 b)]) (.agg [.sc (.int k1 c),.sc (.int k2 d)])=some (vb (a==c&&b==d)):=by
 have e:=bz5 (P:=P) (n:=9998) (a:=a) (b:=b) (c:=c) (d:=d) (k1:=k1) (k2:=k2) ht hs h1 h2 o1 o2 n1 n2;have e':pureRun P (binOp .eql t (.agg #[.int k1 a,.int k2 b]) (.agg #[.int k1 c,.int k2 d]))=some (.bool (a==c&&b==d)):=by
  show pureRun P (Op.equal t (.agg #[.int k1 a,.int k2 b]) (.agg #[.int k1 c,.int k2 d]) >>= λq=>pure (Value.bool q))=_
  rw[pr_b (show pureRun P (Op.equal t (.agg #[.int k1 a,.int k2 b]) (.agg #[.int k1 c,.int k2 d]))=_ from e)];rfl
 simp only[binF,toV,scs,Option.map_some];rw[pr_b (uv hg),e'];rfl
theorem bz3{f1 f2:Field}{k1 k2:IntKind}{a b c d:Int}{k1' k2':IntKind}(ht:P.underlying t=some (.struct #[f1,f2]))(hs:P.stoodInHeld t=false)(hg:P.eqGuardType P.depth t=false)(h1:P.underlying f1.type=some (.int k1'))(h2:P.underlying f2.type=some (.int k2'))(o1:f1.offset=0)(o2:f2.offset=1)(n1:(f1.name≠ "_"))(n2:f2.name≠ "_"):
 binF P .neq t ox oy (.agg [.sc (.int k1 a),.sc (.int k2 b)]) (.agg [.sc (.int k1 c),.sc (.int k2 d)])=some (vb (!(a==c&&b==d))):=by
 have e:=bz5 (P:=P) (n:=9998) (a:=a) (b:=b) (c:=c) (d:=d) (k1:=k1) (k2:=k2) ht hs h1 h2 o1 o2 n1 n2;have e':pureRun P (binOp .neq t (.agg #[.int k1 a,.int k2 b]) (.agg #[.int k1 c,.int k2 d]))=some (.bool (!(a==c&&b==d))):=by
  show pureRun P (Op.equal t (.agg #[.int k1 a,.int k2 b]) (.agg #[.int k1 c,.int k2 d]) >>= λq=>pure (Value.bool (!q)))=_
  rw[pr_b (show pureRun P (Op.equal t (.agg #[.int k1 a,.int k2 b]) (.agg #[.int k1 c,.int k2 d]))=_ from e)];rfl
 simp only[binF,toV,scs,Option.map_some];rw[pr_b (uv hg),e'];rfl
end
end Go.Pb
namespace Go.Pb
open Go Go.RowKit
section
variable{P:Program}{t:TypeId}{ox oy:Operand}
theorem bq7{a b:Bool}{n:Nat}(ht:P.underlying t=some .bool):pureRun P (Op.equalIn (n+1) t (.bool a) (.bool b))=some (a==b):=by
 unfold Op.equalIn;rw[pr_b (ai8 ht)];simp[uk]
theorem cj3{f1 f2:Field}{v1 v2 w1 w2:Value}{r1 r2:Bool}{d1 d2:TypeDesc}{n:Nat}(ht:P.underlying t=some (.struct #[f1,f2]))(hs:P.stoodInHeld t=false)(h1:P.underlying f1.type=some d1)(h2:P.underlying f2.type=some d2)(g1:aggD d1=false)(g2:aggD d2=false)
 (o1:f1.offset=0)(o2:f2.offset=1)(n1:(f1.name≠ "_"))(n2:f2.name≠ "_")(q1:pureRun P (Op.equalIn (n+1) f1.type v1 w1)=some r1)(q2:pureRun P (Op.equalIn (n+1) f2.type v2 w2)=some r2):
 pureRun P (Op.equalIn (n+2) t (.agg #[v1,v2]) (.agg #[w1,w2]))=some (r1&&r2):=by
 unfold Op.equalIn;rw[pr_b (ai8 ht)];have hp:pureRun P (program)=some P:=O;have e1:∀x y:Value,pureRun P (part f1.type #[x,y] f1.offset)=some x:=λx y=>ai7 h1 g1 (by rw[o1];rfl);have e2:∀x y:Value,pureRun P (part f2.type #[x,y] f2.offset)=some y:=λx y=>ai7 h2 g2 (by rw[o2];rfl);simp only[];rw[pr_b hp];simp only[hs,Bool.false_eq_true,if_false];simp only[<-Array.forIn_toList,List.forIn_cons,List.forIn_nil,n1,n2,ne_eq,not_false_eq_true,if_true,bind_assoc,pure_bind];rw[pr_b (e1 v1 v2),pr_b (e1 w1 w2),pr_b q1];cases r1 with
 |true=>
  simp only[Bool.not_true,Bool.false_eq_true,if_false,pure_bind,Bool.true_and,bind_assoc];rw[pr_b (e2 v1 v2),pr_b (e2 w1 w2),pr_b q2];cases r2<;>simp[uk]
 |false=>simp[uk]
theorem dq8{va vb':PV}{a b:Array Value}{r:Bool}(ha:toV va=some (.agg a))(hb:toV vb'=some (.agg b))(hg:P.eqGuardType P.depth t=false)(e:pureRun P (Op.equalIn 10000 t (.agg a) (.agg b))=some r):
 binF P .eql t ox oy va vb'=some (vb r)/\binF P .neq t ox oy va vb'=some (vb (!r)):=by
 have e':pureRun P (binOp .eql t (.agg a) (.agg b))=some (.bool r):=by
  show pureRun P (Op.equal t (.agg a) (.agg b) >>= λq=>pure (Value.bool q))=_
  rw[pr_b (show pureRun P (Op.equal t (.agg a) (.agg b))=_ from e)];rfl
 have e2:pureRun P (binOp .neq t (.agg a) (.agg b))=some (.bool (!r)):=by
  show pureRun P (Op.equal t (.agg a) (.agg b) >>= λq=>pure (Value.bool (!q)))=_
  rw[pr_b (show pureRun P (Op.equal t (.agg a) (.agg b))=_ from e)];rfl
 simp only[binF,ha,hb];constructor
 ·rw[pr_b (uv hg),e'];rfl
 ·rw[pr_b (uv hg),e2];rfl
end
end Go.Pb
