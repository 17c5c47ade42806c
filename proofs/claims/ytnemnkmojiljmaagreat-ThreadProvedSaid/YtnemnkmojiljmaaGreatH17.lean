/- Part 17. -/
import Derived.Test.YtnemnkmojiljmaaGreatProg
import Derived.WalkKit
import Derived.BigQuiet
import Derived.Lib.Hide
import Derived.RangeFuncRecord
import Derived.Test.YtnemnkmojiljmaaGreatH01
set_option maxRecDepth 100000
set_option maxHeartbeats 0
set_option linter.all false
abbrev dw:=@Go.Lib.hid
abbrev dm:=@Go.World.cell?_of_block
abbrev di:=@Go.RowKit.Below.refl
abbrev dh:=@Go.World.cell?_alloc_past
abbrev cZ:=@Go.RowKit.Below.heap_alloc
abbrev cO:=@Go.World.cell?_alloc_at
abbrev cK:=@Go.World.alloc_heap_new
abbrev cB:=@Go.IntKind.wrap_i64
namespace Par
open Go
theorem kU (P:Program) (q:FuncId) (c:Code) (t:TypeId):(P.stub q c).underlying t=P.underlying t:=rfl
theorem rQ (P:Program) (q:FuncId) (c:Code) (t:TypeId):(P.stub q c).info? t=P.info? t:=rfl
theorem yM (P:Program) (q:FuncId) (c:Code) (t:TypeId):(P.stub q c).cellsOf t=P.cellsOf t:=rfl
theorem yN (P:Program) (q:FuncId) (c:Code) (t:TypeId):(P.stub q c).bytesOf t=P.bytesOf t:=rfl
theorem oJ (P:Program) (q:FuncId) (c:Code) {k:FuncId} {f:Func} (h:P.funcs[k]?=some f) (hk:k≠q):(P.stub q c).funcs[k]?=some f:=by
 show (P.funcs.modify q _)[k]?=some f
 rw [bz,h,aa (λe=>hk e.symm)]
section
variable (P:Program) (q:FuncId) (c:Code) (t:TypeId) (w:World)
theorem pU:Sem.run (P.stub q c) (Go.underlying t) w=Sem.run P (Go.underlying t) w:=by
 unfold Go.underlying;simp only [program,Bind.bind,Sem.bind,Sem.run,kU];cases P.underlying t<;>rfl
theorem wD:Sem.run (P.stub q c) (Go.typeInfo t) w=Sem.run P (Go.typeInfo t) w:=by
 unfold Go.typeInfo;simp only [program,Bind.bind,Sem.bind,Sem.run,rQ];cases P.info? t<;>rfl
theorem Av:Sem.run (P.stub q c) (Go.sizeOf t) w=Sem.run P (Go.sizeOf t) w:=by
 unfold Go.sizeOf Go.typeInfo;simp only [program,Bind.bind,Sem.bind,Sem.run,rQ];cases P.info? t<;>rfl
theorem CP:Sem.run (P.stub q c) (Go.isAgg t) w=Sem.run P (Go.isAgg t) w:=by
 unfold Go.isAgg Go.underlying;simp only [program,Bind.bind,Sem.bind,Sem.run,kU];cases P.underlying t with
 |none=>rfl
 |some d=>cases d<;>rfl
theorem uM:Sem.run (P.stub q c) (Go.zeroValue t) w=Sem.run P (Go.zeroValue t) w:=by
 unfold Go.zeroValue Go.typeInfo;simp only [program,Bind.bind,Sem.bind,Sem.run,rQ];cases P.info? t with
 |none=>rfl
 |some i=>
  show Sem.run _ (match i.zero with |some v=>Pure.pure v|none=>_) w=Sem.run _ (match i.zero with |some v=>Pure.pure v|none=>_) w;cases i.zero<;>rfl
theorem OI {k:FuncId} (args:Array Value) (hk:k≠q) {f:Func} (hf:P.funcs[k]?=some f) (hb:f.body.isNone=false) (hn:(f.name== "runtime.NumGoroutine")=false):Sem.run (P.stub q c) (callFunc k args) w= .ok (.enter k args) w:=by
 unfold callFunc;simp only [program,Bind.bind,Sem.bind,Sem.run,oJ P q c hf hk,hb,hn];rfl
end
end Par
namespace Go.Proofs
open Go Go.RowKit
def Tryz.c0:Code:=(Code.region 0 #[{ dst:=some 0,op:=.assign (.const (.bool true)),type:=4,pos:= "",after:= #[],guard:=none }] false).seq Code.ret
class Lo.St where
 c5:Code
 c16:Code
section
variable [Lo.St]
noncomputable def Lo.prog:Program:=(Tryz.prog.stub 14 Lo.St.c5).stub 28 Lo.St.c16
theorem Lo.iB:Lo.prog=(Tryz.prog.stub 14 Lo.St.c5).stub 28 Lo.St.c16:=by unfold Lo.prog;rfl
theorem Lo.underlying (t:TypeId):Lo.prog.underlying t=Tryz.prog.underlying t:=by rw [Lo.iB];exact (Par.kU _ _ _ _).trans (Par.kU _ _ _ _)
theorem Lo.info (t:TypeId):Lo.prog.info? t=Tryz.prog.info? t:=by rw [Lo.iB];exact (Par.rQ _ _ _ _).trans (Par.rQ _ _ _ _)
theorem Lo.cellsOf (t:TypeId):Lo.prog.cellsOf t=Tryz.prog.cellsOf t:=by rw [Lo.iB];exact (Par.yM _ _ _ _).trans (Par.yM _ _ _ _)
theorem Lo.bytesOf (t:TypeId):Lo.prog.bytesOf t=Tryz.prog.bytesOf t:=by rw [Lo.iB];exact (Par.yN _ _ _ _).trans (Par.yN _ _ _ _)
theorem Lo.get {k:FuncId} {f:Func} (h:Tryz.prog.funcs[k]?=some f) (hk:k≠14:=by decide) (hk2:k≠28:=by decide):Lo.prog.funcs[k]?=some f:=by rw [Lo.iB];exact Par.oJ _ _ _ (Par.oJ _ _ _ h hk) hk2
theorem Lo.runUnderlying (t:TypeId) (w:World):Sem.run Lo.prog (Go.underlying t) w=Sem.run Tryz.prog (Go.underlying t) w:=by rw [Lo.iB];exact (Par.pU ..).trans (Par.pU ..)
theorem Lo.typeInfo (t:TypeId) (w:World):Sem.run Lo.prog (Go.typeInfo t) w=Sem.run Tryz.prog (Go.typeInfo t) w:=by rw [Lo.iB];exact (Par.wD ..).trans (Par.wD ..)
theorem Lo.sizeOf (t:TypeId) (w:World):Sem.run Lo.prog (Go.sizeOf t) w=Sem.run Tryz.prog (Go.sizeOf t) w:=by rw [Lo.iB];exact (Par.Av ..).trans (Par.Av ..)
theorem Lo.isAgg (t:TypeId) (w:World):Sem.run Lo.prog (Go.isAgg t) w=Sem.run Tryz.prog (Go.isAgg t) w:=by rw [Lo.iB];exact (Par.CP ..).trans (Par.CP ..)
theorem Lo.zeroValue (t:TypeId) (w:World):Sem.run Lo.prog (Go.zeroValue t) w=Sem.run Tryz.prog (Go.zeroValue t) w:=by rw [Lo.iB];exact (Par.uM ..).trans (Par.uM ..)
theorem Lo.facts:(∀t,Lo.prog.underlying t=Tryz.prog.underlying t)∧(∀t w,Sem.run Lo.prog (Go.underlying t) w=Sem.run Tryz.prog (Go.underlying t) w)∧(∀t w,Sem.run Lo.prog (Go.sizeOf t) w=Sem.run Tryz.prog (Go.sizeOf t) w)∧(∀t w,Sem.run Lo.prog (Go.typeInfo t) w=Sem.run Tryz.prog (Go.typeInfo t) w)∧(∀t w,Sem.run Lo.prog (Go.isAgg t) w=Sem.run Tryz.prog (Go.isAgg t) w)∧∀t w,Sem.run Lo.prog (Go.zeroValue t) w=Sem.run Tryz.prog (Go.zeroValue t) w:=⟨Lo.underlying,Lo.runUnderlying,Lo.sizeOf,Lo.typeInfo,Lo.isAgg,Lo.zeroValue⟩
theorem Lo.call {k:FuncId} {f:Func} (hf:Tryz.prog.funcs[k]?=some f) (hk:k≠14:=by decide) (hk2:k≠28:=by decide) (hb:f.body.isNone=false:=by kernel_rfl) (hn:(f.name== "runtime.NumGoroutine")=false:=by kernel_rfl) (args:Array Value) (w:World):Sem.run Lo.prog (callFunc k args) w= .ok (.enter k args) w:=by rw [Lo.iB];exact Par.OI _ _ _ _ _ hk2 (Par.oJ _ _ _ hf hk) hb hn
end
end Go.Proofs
