/- Part 21. -/
import Derived.Test.YtnemnkmojiljmaaF13
import Derived.Test.YtnemnkmojiljmaaF14
import Derived.Test.YtnemnkmojiljmaaF20
set_option maxRecDepth 100000
set_option maxHeartbeats 8000000
set_option linter.all false
section
namespace Go.Proofs
open Go Go.RowKit Go.Maps
variable [Lo.St]
theorem TN {P:Program} {q:FuncId} {fn:Func} (h:P.funcs[q]?=some fn) (c:Code):(P.stub q c).funcs[q]?=some { fn with body:=some c }:=by
 show (P.funcs.modify q _)[q]?=_
 rw [aQ,if_pos rfl,h];rfl
theorem Lo.at5:Lo.prog.funcs[5]?=some { Try.f5 with body:=some Lo.St.c5 }:=by
 rw [Lo.iD];exact Par.rR _ _ _ (TN Try.func5 _) (by decide)
theorem Lo.call5 (args:Array Value) (w:World):Sem.run Lo.prog (callFunc 5 args) w= .ok (.enter 5 args) w:=by
 have hn:(Try.f5.name== "runtime.NumGoroutine")=false:=by kernel_rfl
 unfold callFunc;simp only [program,Bind.bind,Sem.bind,Sem.run,Lo.at5,hn];rfl
def KH [Lo.St]:Prop:=∀w:World,Calls Lo.prog 5 #[] w λe w'=>e= .returned (.bool true)∧w'=w
end Go.Proofs
end
section
namespace Go.Proofs
open Go Go.RowKit Go.Maps
variable [Lo.St]
theorem Ff {X:World} {b:Nat} {c:Array Value} {e:TypeId} {fr:Nat×Nat} (h:X.heap[b]?=some (.cells c e fr)) (o:Nat):X.cell? ⟨b,o,none⟩=c[o]?:=by
 unfold World.cell?;simp only [h];cases c[o]?<;>rfl
end Go.Proofs
end
