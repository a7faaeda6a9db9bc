import Derived.Test.YtmonnlkagniolaaGreatPbEx
set_option linter.all false
namespace Go.Pb
open Go Go.RowKit
def boolB(d:Option TypeDesc):Bool:=match d with
 |some .bool=>true
 |_=>false
theorem bg0:boolB (some .bool)=true:=_root_.id O
theorem ba3{d:Option TypeDesc}(h:boolB d=true):d=some .bool:=by
 unfold boolB at h;split at h
 ·rfl
 ·cases h
theorem at3{P:Program}{α β:Type}{s:Sem α}{a:α}{f:α->Sem β}(h:pureRun P s=some a):pureRun P (s.bind f)=pureRun P (f a):=by
 induction s with
 |pure b=>simp only[pureRun,Option.some.injEq]at h;subst h;rfl
 |program k ih=>exact ih P h
 |mark m k ih=>exact ih h
 |_=>simp[pureRun]at h
section
variable{P:Program}{t:TypeId}{ox oy:Operand}{a b:Bool}
theorem bz9(ht:boolB (P.underlying t)=true):binF P .eql t ox oy (.sc (.bool a)) (.sc (.bool b))=some (.sc (.bool (decide (a=b)))):=by
 have ht:=ba3 ht;have e:∀k,pureRun P (Op.equalIn (k+1) t (.bool a) (.bool b))=some (decide (a=b)):=by
  intro k;simp[Op.equalIn,underlying,program,pureRun,pure,bind,Sem.bind,Sem.instMonad,ht];cases a<;>cases b<;>rfl
 have e':pureRun P (Op.equalIn Op.maxDepth t (.bool a) (.bool b))=some (decide (a=b)):=e 9999;simp[binF,toV,eqGuard,binOp,Op.equal,pure,bind,Sem.instMonad];rw[show∀(f:Unit->Sem Value),(Sem.pure ()).bind f=f () fromλ_=>rfl,at3 e'];exact⟨_,O,O⟩
theorem ax2(ht:boolB (P.underlying t)=true):binF P .neq t ox oy (.sc (.bool a)) (.sc (.bool b))=some (.sc (.bool (!decide (a=b)))):=by
 have ht:=ba3 ht;have e:∀k,pureRun P (Op.equalIn (k+1) t (.bool a) (.bool b))=some (decide (a=b)):=by
  intro k;simp[Op.equalIn,underlying,program,pureRun,pure,bind,Sem.bind,Sem.instMonad,ht];cases a<;>cases b<;>rfl
 have e':pureRun P (Op.equalIn Op.maxDepth t (.bool a) (.bool b))=some (decide (a=b)):=e 9999;simp[binF,toV,eqGuard,binOp,Op.equal,pure,bind,Sem.instMonad];rw[show∀(f:Unit->Sem Value),(Sem.pure ()).bind f=f () fromλ_=>rfl,at3 e'];exact⟨_,O,O⟩
end
attribute [simp] bg0 bz9 ax2
end Go.Pb
