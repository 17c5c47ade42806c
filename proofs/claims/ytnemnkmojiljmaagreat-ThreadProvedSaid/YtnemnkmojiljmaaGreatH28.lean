/- Part 28. -/
import Derived.Test.YtnemnkmojiljmaaGreatH08
import Derived.Test.YtnemnkmojiljmaaGreatH27
set_option maxRecDepth 100000
set_option maxHeartbeats 0
set_option linter.all false
namespace Go.Proofs
open Go Go.RowKit Go.Maps
section
variable [Lo.St]
theorem any_false {α:Type} {f:α->Bool} {l:List α} (h:∀x∈l,f x=false):l.any f=false:=by
 rw [List.any_eq_false];exact λx hx=>by rw [h x hx];simp
structure CkS (dI:List (Int×Int)) (cs:List (Int×Int×Int)) (limit:Int):Prop where
 nl:dI.length<=6
 nc:1<=cs.length∧cs.length<=4
 lot:∀x∈dI,jU x=false
 cut:∀x∈cs,jv x=false
 lim:0<=limit∧limit<=1000000
theorem CkS.zero {dI:List (Int×Int)} {cs:List (Int×Int×Int)} {limit:Int} (h:CkS dI cs limit):fI dI cs limit=0:=by
 have b1:kH cs.length 1 4=true:=by unfold kH;have :=h.nc;simp;omega
 have b2:kH limit 0 1000000=true:=by unfold kH;have :=h.lim;simp;omega
 unfold fI;rw [aa (by have :=h.nl;omega),aa (by rw [b1];simp),aa (by rw [any_false h.lot];simp),aa (by rw [any_false h.cut];simp),aa (by rw [b2];simp)]
end
section
variable [Lo.St]
theorem SH {P:Program} {q:FuncId} {fn:Func} (h:P.funcs[q]?=some fn) (c:Code):(P.stub q c).funcs[q]?=some { fn with body:=some c }:=by
 show (P.funcs.modify q _)[q]?=_
 rw [bz,aj rfl,h];rfl
theorem Lo.at5:Lo.prog.funcs[14]?=some { Tryz.f14 with body:=some Lo.St.c5 }:=by
 rw [Lo.iB];exact Par.oJ _ _ _ (SH Tryz.func14 _) (by decide)
theorem Lo.call14 (args:Array Value) (w:World):Sem.run Lo.prog (callFunc 14 args) w= .ok (.enter 14 args) w:=by
 have hn:(Tryz.f14.name== "runtime.NumGoroutine")=false:=by kernel_rfl
 unfold callFunc;simp only [program,Bind.bind,Sem.bind,Sem.run,Lo.at5,hn];rfl
def ai2 [Lo.St]:Prop:=∀w:World,Calls Lo.prog 14 #[] w λe w'=>e= .returned (.bool true)∧w'=w
end
section
variable [Lo.St]
end
section
variable [Lo.St]
theorem al8 {W:World} {p:Nat} {x y z u:Value} {t:TypeId} {fr:Nat×Nat} (h:W.heap[p]?=some (.cells #[x,y,z,u] t fr)):W.cell? ⟨p,0,none⟩=some x∧W.cell? ⟨p,1,none⟩=some y∧W.cell? ⟨p,2,none⟩=some z∧W.cell? ⟨p,3,none⟩=some u:=⟨cell_of h 0,cell_of h 1,cell_of h 2,cell_of h 3⟩
end
section
noncomputable def Tryz.lQ:Code:=Tryz.f28.body.getD .skip
noncomputable def Tryz.RP2:Code:=(Tryz.fE 15 Tryz.lQ).getD .skip
variable [Lo.St]
end
end Go.Proofs
