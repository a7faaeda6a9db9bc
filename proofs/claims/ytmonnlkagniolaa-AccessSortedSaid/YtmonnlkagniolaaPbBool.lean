import Derived.Test.YtmonnlkagniolaaPbEx
set_option linter.all false
namespace Go.Pb
open Go Go.RowKit
def boolB(d:Option TypeDesc):Bool:=match d with
 |some .bool=>true
 |_=>false
theorem boolB_bool:boolB (some .bool)=true:=_root_.id O
theorem boolB_ex{d:Option TypeDesc}(h:boolB d=true):d=some .bool:=by
 unfold boolB at h;split at h
 ·rfl
 ·cases h
theorem pr_bind{P:Program}{α β:Type}{s:Sem α}{a:α}{f:α->Sem β}(h:pureRun P s=some a):pureRun P (s.bind f)=pureRun P (f a):=by
 induction s with
 |pure b=>simp only[pureRun,Option.some.injEq]at h;subst h;rfl
 |program k ih=>exact ih P h
 |mark m k ih=>exact ih h
 |_=>simp[pureRun]at h
section
variable{P:Program}{t:TypeId}{ox oy:Operand}{a b:Bool}
theorem bin_eqlb(ht:boolB (P.underlying t)=true):binF P .eql t ox oy (.sc (.bool a)) (.sc (.bool b))=some (.sc (.bool (decide (a=b)))):=by
 have ht:=boolB_ex ht;have e:∀k,pureRun P (Op.equalIn (k+1) t (.bool a) (.bool b))=some (decide (a=b)):=by
  intro k;simp[Op.equalIn,underlying,program,pureRun,pure,bind,Sem.bind,Sem.instMonad,ht];cases a<;>cases b<;>rfl
 have e':pureRun P (Op.equalIn Op.maxDepth t (.bool a) (.bool b))=some (decide (a=b)):=e 9999;simp[binF,toV,eqGuard,binOp,Op.equal,pure,bind,Sem.instMonad];rw[show∀(f:Unit->Sem Value),(Sem.pure ()).bind f=f () fromλ_=>rfl,pr_bind e'];exact⟨_,O,O⟩
theorem bin_neqb(ht:boolB (P.underlying t)=true):binF P .neq t ox oy (.sc (.bool a)) (.sc (.bool b))=some (.sc (.bool (!decide (a=b)))):=by
 have ht:=boolB_ex ht;have e:∀k,pureRun P (Op.equalIn (k+1) t (.bool a) (.bool b))=some (decide (a=b)):=by
  intro k;simp[Op.equalIn,underlying,program,pureRun,pure,bind,Sem.bind,Sem.instMonad,ht];cases a<;>cases b<;>rfl
 have e':pureRun P (Op.equalIn Op.maxDepth t (.bool a) (.bool b))=some (decide (a=b)):=e 9999;simp[binF,toV,eqGuard,binOp,Op.equal,pure,bind,Sem.instMonad];rw[show∀(f:Unit->Sem Value),(Sem.pure ()).bind f=f () fromλ_=>rfl,pr_bind e'];exact⟨_,O,O⟩
end
attribute [simp] boolB_bool bin_eqlb bin_neqb
end Go.Pb
