/- Part 2. -/
import Derived.Test.YtnemnkmojiljmaaProg
import Derived.WalkKit
import Derived.Below
import Derived.Deep.QuietTactic
import Derived.BigQuiet
import Derived.Lib.Hide
import Derived.IntWalk
import Derived.Outline
import Derived.KernelRfl
import Derived.Test.YtnemnkmojiljmaaF01
set_option maxRecDepth 100000
set_option maxHeartbeats 8000000
set_option linter.all false
namespace Par
open Go
theorem mg (P:Program) (q:FuncId) (c:Code) (t:TypeId):(P.stub q c).underlying t=P.underlying t:=rfl
theorem uL (P:Program) (q:FuncId) (c:Code) (t:TypeId):(P.stub q c).info? t=P.info? t:=rfl
theorem zV (P:Program) (q:FuncId) (c:Code) (t:TypeId):(P.stub q c).cellsOf t=P.cellsOf t:=rfl
theorem zW (P:Program) (q:FuncId) (c:Code) (t:TypeId):(P.stub q c).bytesOf t=P.bytesOf t:=rfl
theorem rR (P:Program) (q:FuncId) (c:Code) {k:FuncId} {f:Func} (h:P.funcs[k]?=some f) (hk:k≠q):(P.stub q c).funcs[k]?=some f:=by
 show (P.funcs.modify q _)[k]?=some f
 rw [aQ,h,if_neg (λe=>hk e.symm)]
section
variable (P:Program) (q:FuncId) (c:Code) (t:TypeId) (w:World)
theorem rY:Sem.run (P.stub q c) (Go.underlying t) w=Sem.run P (Go.underlying t) w:=by
 unfold Go.underlying;simp only [program,Bind.bind,Sem.bind,Sem.run,mg];cases P.underlying t<;>rfl
theorem yH:Sem.run (P.stub q c) (Go.typeInfo t) w=Sem.run P (Go.typeInfo t) w:=by
 unfold Go.typeInfo;simp only [program,Bind.bind,Sem.bind,Sem.run,uL];cases P.info? t<;>rfl
theorem Cm:Sem.run (P.stub q c) (Go.sizeOf t) w=Sem.run P (Go.sizeOf t) w:=by
 unfold Go.sizeOf Go.typeInfo;simp only [program,Bind.bind,Sem.bind,Sem.run,uL];cases P.info? t<;>rfl
theorem DI:Sem.run (P.stub q c) (Go.isAgg t) w=Sem.run P (Go.isAgg t) w:=by
 unfold Go.isAgg Go.underlying;simp only [program,Bind.bind,Sem.bind,Sem.run,mg];cases P.underlying t with
 |none=>rfl
 |some d=>cases d<;>rfl
theorem xm:Sem.run (P.stub q c) (Go.zeroValue t) w=Sem.run P (Go.zeroValue t) w:=by
 unfold Go.zeroValue Go.typeInfo;simp only [program,Bind.bind,Sem.bind,Sem.run,uL];cases P.info? t with
 |none=>rfl
 |some i=>
  show Sem.run _ (match i.zero with |some v=>Pure.pure v|none=>_) w=Sem.run _ (match i.zero with |some v=>Pure.pure v|none=>_) w;cases i.zero<;>rfl
theorem OW {k:FuncId} (args:Array Value) (hk:k≠q) {f:Func} (hf:P.funcs[k]?=some f) (hb:f.body.isNone=false) (hn:(f.name== "runtime.NumGoroutine")=false):Sem.run (P.stub q c) (callFunc k args) w= .ok (.enter k args) w:=by
 unfold callFunc;simp only [program,Bind.bind,Sem.bind,Sem.run,rR P q c hf hk,hb,hn];rfl
end
end Par
namespace Go.Proofs
open Go Go.RowKit
def Try.c0:Code:=(Code.region 0 #[{ dst:=some 0,op:=.assign (.const (.bool true)),type:=4,pos:= "",after:= #[],guard:=none }] false).seq Code.ret
class Lo.St where
 c5:Code
 c16:Code
section
variable [Lo.St]
noncomputable def Lo.prog:Program:=(Try.prog.stub 5 Lo.St.c5).stub 16 Lo.St.c16
theorem Lo.iD:Lo.prog=(Try.prog.stub 5 Lo.St.c5).stub 16 Lo.St.c16:=by unfold Lo.prog;rfl
theorem Lo.underlying (t:TypeId):Lo.prog.underlying t=Try.prog.underlying t:=by rw [Lo.iD];exact (Par.mg _ _ _ _).trans (Par.mg _ _ _ _)
theorem Lo.info (t:TypeId):Lo.prog.info? t=Try.prog.info? t:=by rw [Lo.iD];exact (Par.uL _ _ _ _).trans (Par.uL _ _ _ _)
theorem Lo.cellsOf (t:TypeId):Lo.prog.cellsOf t=Try.prog.cellsOf t:=by rw [Lo.iD];exact (Par.zV _ _ _ _).trans (Par.zV _ _ _ _)
theorem Lo.bytesOf (t:TypeId):Lo.prog.bytesOf t=Try.prog.bytesOf t:=by rw [Lo.iD];exact (Par.zW _ _ _ _).trans (Par.zW _ _ _ _)
theorem Lo.get {k:FuncId} {f:Func} (h:Try.prog.funcs[k]?=some f) (hk:k≠5) (hk2:k≠16):Lo.prog.funcs[k]?=some f:=by rw [Lo.iD];exact Par.rR _ _ _ (Par.rR _ _ _ h hk) hk2
theorem Lo.runUnderlying (t:TypeId) (w:World):Sem.run Lo.prog (Go.underlying t) w=Sem.run Try.prog (Go.underlying t) w:=by rw [Lo.iD];exact (Par.rY ..).trans (Par.rY ..)
theorem Lo.typeInfo (t:TypeId) (w:World):Sem.run Lo.prog (Go.typeInfo t) w=Sem.run Try.prog (Go.typeInfo t) w:=by rw [Lo.iD];exact (Par.yH ..).trans (Par.yH ..)
theorem Lo.sizeOf (t:TypeId) (w:World):Sem.run Lo.prog (Go.sizeOf t) w=Sem.run Try.prog (Go.sizeOf t) w:=by rw [Lo.iD];exact (Par.Cm ..).trans (Par.Cm ..)
theorem Lo.isAgg (t:TypeId) (w:World):Sem.run Lo.prog (Go.isAgg t) w=Sem.run Try.prog (Go.isAgg t) w:=by rw [Lo.iD];exact (Par.DI ..).trans (Par.DI ..)
theorem Lo.zeroValue (t:TypeId) (w:World):Sem.run Lo.prog (Go.zeroValue t) w=Sem.run Try.prog (Go.zeroValue t) w:=by rw [Lo.iD];exact (Par.xm ..).trans (Par.xm ..)
theorem Lo.call {k:FuncId} {f:Func} (hf:Try.prog.funcs[k]?=some f) (hk:k≠5) (hk2:k≠16) (hb:f.body.isNone=false) (hn:(f.name== "runtime.NumGoroutine")=false) (args:Array Value) (w:World):Sem.run Lo.prog (callFunc k args) w= .ok (.enter k args) w:=by rw [Lo.iD];exact Par.OW _ _ _ _ _ hk2 (Par.rR _ _ _ hf hk) hb hn
theorem Lo.facts:(∀t,Lo.prog.underlying t=Try.prog.underlying t)∧(∀t w,Sem.run Lo.prog (Go.underlying t) w=Sem.run Try.prog (Go.underlying t) w)∧(∀t w,Sem.run Lo.prog (Go.sizeOf t) w=Sem.run Try.prog (Go.sizeOf t) w)∧(∀t w,Sem.run Lo.prog (Go.typeInfo t) w=Sem.run Try.prog (Go.typeInfo t) w)∧(∀t w,Sem.run Lo.prog (Go.isAgg t) w=Sem.run Try.prog (Go.isAgg t) w)∧∀t w,Sem.run Lo.prog (Go.zeroValue t) w=Sem.run Try.prog (Go.zeroValue t) w:=⟨Lo.underlying,Lo.runUnderlying,Lo.sizeOf,Lo.typeInfo,Lo.isAgg,Lo.zeroValue⟩
theorem Lo.func6:Lo.prog.funcs[6]?=some Try.f6:=Lo.get Try.func6 (by decide) (by decide)
theorem Lo.func7:Lo.prog.funcs[7]?=some Try.f7:=Lo.get Try.func7 (by decide) (by decide)
theorem Lo.func8:Lo.prog.funcs[8]?=some Try.f8:=Lo.get Try.func8 (by decide) (by decide)
theorem Lo.func9:Lo.prog.funcs[9]?=some Try.f9:=Lo.get Try.func9 (by decide) (by decide)
theorem Lo.func10:Lo.prog.funcs[10]?=some Try.f10:=Lo.get Try.func10 (by decide) (by decide)
theorem Lo.func11:Lo.prog.funcs[11]?=some Try.f11:=Lo.get Try.func11 (by decide) (by decide)
theorem Lo.func12:Lo.prog.funcs[12]?=some Try.f12:=Lo.get Try.func12 (by decide) (by decide)
theorem Lo.func13:Lo.prog.funcs[13]?=some Try.f13:=Lo.get Try.func13 (by decide) (by decide)
theorem Lo.func14:Lo.prog.funcs[14]?=some Try.f14:=Lo.get Try.func14 (by decide) (by decide)
theorem Lo.func15:Lo.prog.funcs[15]?=some Try.f15:=Lo.get Try.func15 (by decide) (by decide)
theorem Lo.func17:Lo.prog.funcs[17]?=some Try.f17:=Lo.get Try.func17 (by decide) (by decide)
theorem Lo.func18:Lo.prog.funcs[18]?=some Try.f18:=Lo.get Try.func18 (by decide) (by decide)
theorem Lo.func19:Lo.prog.funcs[19]?=some Try.f19:=Lo.get Try.func19 (by decide) (by decide)
theorem Lo.func20:Lo.prog.funcs[20]?=some Try.f20:=Lo.get Try.func20 (by decide) (by decide)
theorem Lo.func21:Lo.prog.funcs[21]?=some Try.f21:=Lo.get Try.func21 (by decide) (by decide)
theorem Lo.func22:Lo.prog.funcs[22]?=some Try.f22:=Lo.get Try.func22 (by decide) (by decide)
theorem Lo.func23:Lo.prog.funcs[23]?=some Try.f23:=Lo.get Try.func23 (by decide) (by decide)
theorem Lo.func24:Lo.prog.funcs[24]?=some Try.f24:=Lo.get Try.func24 (by decide) (by decide)
theorem Lo.func25:Lo.prog.funcs[25]?=some Try.f25:=Lo.get Try.func25 (by decide) (by decide)
theorem Lo.func26:Lo.prog.funcs[26]?=some Try.f26:=Lo.get Try.func26 (by decide) (by decide)
theorem Lo.func27:Lo.prog.funcs[27]?=some Try.f27:=Lo.get Try.func27 (by decide) (by decide)
theorem Lo.func28:Lo.prog.funcs[28]?=some Try.f28:=Lo.get Try.func28 (by decide) (by decide)
theorem Lo.func29:Lo.prog.funcs[29]?=some Try.f29:=Lo.get Try.func29 (by decide) (by decide)
theorem Lo.func30:Lo.prog.funcs[30]?=some Try.f30:=Lo.get Try.func30 (by decide) (by decide)
theorem Lo.func31:Lo.prog.funcs[31]?=some Try.f31:=Lo.get Try.func31 (by decide) (by decide)
theorem Lo.func32:Lo.prog.funcs[32]?=some Try.f32:=Lo.get Try.func32 (by decide) (by decide)
theorem Lo.func33:Lo.prog.funcs[33]?=some Try.f33:=Lo.get Try.func33 (by decide) (by decide)
theorem Lo.func34:Lo.prog.funcs[34]?=some Try.f34:=Lo.get Try.func34 (by decide) (by decide)
theorem Lo.func38:Lo.prog.funcs[38]?=some Try.f38:=Lo.get Try.func38 (by decide) (by decide)
theorem Lo.func39:Lo.prog.funcs[39]?=some Try.f39:=Lo.get Try.func39 (by decide) (by decide)
theorem Lo.func43:Lo.prog.funcs[43]?=some Try.f43:=Lo.get Try.func43 (by decide) (by decide)
theorem Lo.func44:Lo.prog.funcs[44]?=some Try.f44:=Lo.get Try.func44 (by decide) (by decide)
theorem Lo.func45:Lo.prog.funcs[45]?=some Try.f45:=Lo.get Try.func45 (by decide) (by decide)
theorem Lo.func46:Lo.prog.funcs[46]?=some Try.f46:=Lo.get Try.func46 (by decide) (by decide)
theorem Lo.func47:Lo.prog.funcs[47]?=some Try.f47:=Lo.get Try.func47 (by decide) (by decide)
theorem Lo.func48:Lo.prog.funcs[48]?=some Try.f48:=Lo.get Try.func48 (by decide) (by decide)
theorem Lo.func49:Lo.prog.funcs[49]?=some Try.f49:=Lo.get Try.func49 (by decide) (by decide)
theorem Lo.func50:Lo.prog.funcs[50]?=some Try.f50:=Lo.get Try.func50 (by decide) (by decide)
theorem Lo.func51:Lo.prog.funcs[51]?=some Try.f51:=Lo.get Try.func51 (by decide) (by decide)
theorem Lo.func52:Lo.prog.funcs[52]?=some Try.f52:=Lo.get Try.func52 (by decide) (by decide)
theorem Lo.func53:Lo.prog.funcs[53]?=some Try.f53:=Lo.get Try.func53 (by decide) (by decide)
theorem Lo.func54:Lo.prog.funcs[54]?=some Try.f54:=Lo.get Try.func54 (by decide) (by decide)
theorem Lo.func55:Lo.prog.funcs[55]?=some Try.f55:=Lo.get Try.func55 (by decide) (by decide)
theorem Lo.func77:Lo.prog.funcs[77]?=some Try.f77:=Lo.get Try.func77 (by decide) (by decide)
theorem Lo.func78:Lo.prog.funcs[78]?=some Try.f78:=Lo.get Try.func78 (by decide) (by decide)
theorem Lo.func79:Lo.prog.funcs[79]?=some Try.f79:=Lo.get Try.func79 (by decide) (by decide)
theorem Lo.func80:Lo.prog.funcs[80]?=some Try.f80:=Lo.get Try.func80 (by decide) (by decide)
theorem Lo.func81:Lo.prog.funcs[81]?=some Try.f81:=Lo.get Try.func81 (by decide) (by decide)
theorem Lo.func82:Lo.prog.funcs[82]?=some Try.f82:=Lo.get Try.func82 (by decide) (by decide)
theorem Lo.func83:Lo.prog.funcs[83]?=some Try.f83:=Lo.get Try.func83 (by decide) (by decide)
theorem Lo.func93:Lo.prog.funcs[93]?=some Try.f93:=Lo.get Try.func93 (by decide) (by decide)
theorem Lo.func94:Lo.prog.funcs[94]?=some Try.f94:=Lo.get Try.func94 (by decide) (by decide)
theorem Lo.func95:Lo.prog.funcs[95]?=some Try.f95:=Lo.get Try.func95 (by decide) (by decide)
theorem Lo.func96:Lo.prog.funcs[96]?=some Try.f96:=Lo.get Try.func96 (by decide) (by decide)
theorem Lo.func104:Lo.prog.funcs[104]?=some Try.f104:=Lo.get Try.func104 (by decide) (by decide)
theorem Lo.func3:Lo.prog.funcs[3]?=some Try.f3:=Lo.get Try.func3 (by decide) (by decide)
theorem Lo.call6 (args:Array Value) (w:World):Sem.run Lo.prog (callFunc 6 args) w= .ok (.enter 6 args) w:=Lo.call Try.func6 (by decide) (by decide) (by kernel_rfl) (by kernel_rfl) args w
theorem Lo.call7 (args:Array Value) (w:World):Sem.run Lo.prog (callFunc 7 args) w= .ok (.enter 7 args) w:=Lo.call Try.func7 (by decide) (by decide) (by kernel_rfl) (by kernel_rfl) args w
theorem Lo.call8 (args:Array Value) (w:World):Sem.run Lo.prog (callFunc 8 args) w= .ok (.enter 8 args) w:=Lo.call Try.func8 (by decide) (by decide) (by kernel_rfl) (by kernel_rfl) args w
theorem Lo.call9 (args:Array Value) (w:World):Sem.run Lo.prog (callFunc 9 args) w= .ok (.enter 9 args) w:=Lo.call Try.func9 (by decide) (by decide) (by kernel_rfl) (by kernel_rfl) args w
theorem Lo.call10 (args:Array Value) (w:World):Sem.run Lo.prog (callFunc 10 args) w= .ok (.enter 10 args) w:=Lo.call Try.func10 (by decide) (by decide) (by kernel_rfl) (by kernel_rfl) args w
theorem Lo.call11 (args:Array Value) (w:World):Sem.run Lo.prog (callFunc 11 args) w= .ok (.enter 11 args) w:=Lo.call Try.func11 (by decide) (by decide) (by kernel_rfl) (by kernel_rfl) args w
theorem Lo.call12 (args:Array Value) (w:World):Sem.run Lo.prog (callFunc 12 args) w= .ok (.enter 12 args) w:=Lo.call Try.func12 (by decide) (by decide) (by kernel_rfl) (by kernel_rfl) args w
theorem Lo.call13 (args:Array Value) (w:World):Sem.run Lo.prog (callFunc 13 args) w= .ok (.enter 13 args) w:=Lo.call Try.func13 (by decide) (by decide) (by kernel_rfl) (by kernel_rfl) args w
theorem Lo.call14 (args:Array Value) (w:World):Sem.run Lo.prog (callFunc 14 args) w= .ok (.enter 14 args) w:=Lo.call Try.func14 (by decide) (by decide) (by kernel_rfl) (by kernel_rfl) args w
theorem Lo.call15 (args:Array Value) (w:World):Sem.run Lo.prog (callFunc 15 args) w= .ok (.enter 15 args) w:=Lo.call Try.func15 (by decide) (by decide) (by kernel_rfl) (by kernel_rfl) args w
theorem Lo.call17 (args:Array Value) (w:World):Sem.run Lo.prog (callFunc 17 args) w= .ok (.enter 17 args) w:=Lo.call Try.func17 (by decide) (by decide) (by kernel_rfl) (by kernel_rfl) args w
theorem Lo.call18 (args:Array Value) (w:World):Sem.run Lo.prog (callFunc 18 args) w= .ok (.enter 18 args) w:=Lo.call Try.func18 (by decide) (by decide) (by kernel_rfl) (by kernel_rfl) args w
theorem Lo.call19 (args:Array Value) (w:World):Sem.run Lo.prog (callFunc 19 args) w= .ok (.enter 19 args) w:=Lo.call Try.func19 (by decide) (by decide) (by kernel_rfl) (by kernel_rfl) args w
theorem Lo.call20 (args:Array Value) (w:World):Sem.run Lo.prog (callFunc 20 args) w= .ok (.enter 20 args) w:=Lo.call Try.func20 (by decide) (by decide) (by kernel_rfl) (by kernel_rfl) args w
theorem Lo.call21 (args:Array Value) (w:World):Sem.run Lo.prog (callFunc 21 args) w= .ok (.enter 21 args) w:=Lo.call Try.func21 (by decide) (by decide) (by kernel_rfl) (by kernel_rfl) args w
theorem Lo.call22 (args:Array Value) (w:World):Sem.run Lo.prog (callFunc 22 args) w= .ok (.enter 22 args) w:=Lo.call Try.func22 (by decide) (by decide) (by kernel_rfl) (by kernel_rfl) args w
theorem Lo.call23 (args:Array Value) (w:World):Sem.run Lo.prog (callFunc 23 args) w= .ok (.enter 23 args) w:=Lo.call Try.func23 (by decide) (by decide) (by kernel_rfl) (by kernel_rfl) args w
theorem Lo.call24 (args:Array Value) (w:World):Sem.run Lo.prog (callFunc 24 args) w= .ok (.enter 24 args) w:=Lo.call Try.func24 (by decide) (by decide) (by kernel_rfl) (by kernel_rfl) args w
theorem Lo.call25 (args:Array Value) (w:World):Sem.run Lo.prog (callFunc 25 args) w= .ok (.enter 25 args) w:=Lo.call Try.func25 (by decide) (by decide) (by kernel_rfl) (by kernel_rfl) args w
theorem Lo.call26 (args:Array Value) (w:World):Sem.run Lo.prog (callFunc 26 args) w= .ok (.enter 26 args) w:=Lo.call Try.func26 (by decide) (by decide) (by kernel_rfl) (by kernel_rfl) args w
theorem Lo.call27 (args:Array Value) (w:World):Sem.run Lo.prog (callFunc 27 args) w= .ok (.enter 27 args) w:=Lo.call Try.func27 (by decide) (by decide) (by kernel_rfl) (by kernel_rfl) args w
theorem Lo.call28 (args:Array Value) (w:World):Sem.run Lo.prog (callFunc 28 args) w= .ok (.enter 28 args) w:=Lo.call Try.func28 (by decide) (by decide) (by kernel_rfl) (by kernel_rfl) args w
theorem Lo.call29 (args:Array Value) (w:World):Sem.run Lo.prog (callFunc 29 args) w= .ok (.enter 29 args) w:=Lo.call Try.func29 (by decide) (by decide) (by kernel_rfl) (by kernel_rfl) args w
theorem Lo.call30 (args:Array Value) (w:World):Sem.run Lo.prog (callFunc 30 args) w= .ok (.enter 30 args) w:=Lo.call Try.func30 (by decide) (by decide) (by kernel_rfl) (by kernel_rfl) args w
theorem Lo.func56:Lo.prog.funcs[56]?=some Try.f56:=Lo.get Try.func56 (by decide) (by decide)
theorem Lo.call56 (args:Array Value) (w:World):Sem.run Lo.prog (callFunc 56 args) w= .ok (.enter 56 args) w:=Lo.call Try.func56 (by decide) (by decide) (by kernel_rfl) (by kernel_rfl) args w
theorem Lo.call32 (args:Array Value) (w:World):Sem.run Lo.prog (callFunc 32 args) w= .ok (.enter 32 args) w:=Lo.call Try.func32 (by decide) (by decide) (by kernel_rfl) (by kernel_rfl) args w
theorem Lo.call33 (args:Array Value) (w:World):Sem.run Lo.prog (callFunc 33 args) w= .ok (.enter 33 args) w:=Lo.call Try.func33 (by decide) (by decide) (by kernel_rfl) (by kernel_rfl) args w
theorem Lo.call34 (args:Array Value) (w:World):Sem.run Lo.prog (callFunc 34 args) w= .ok (.enter 34 args) w:=Lo.call Try.func34 (by decide) (by decide) (by kernel_rfl) (by kernel_rfl) args w
theorem Lo.call43 (args:Array Value) (w:World):Sem.run Lo.prog (callFunc 43 args) w= .ok (.enter 43 args) w:=Lo.call Try.func43 (by decide) (by decide) (by kernel_rfl) (by kernel_rfl) args w
theorem Lo.call44 (args:Array Value) (w:World):Sem.run Lo.prog (callFunc 44 args) w= .ok (.enter 44 args) w:=Lo.call Try.func44 (by decide) (by decide) (by kernel_rfl) (by kernel_rfl) args w
theorem Lo.call45 (args:Array Value) (w:World):Sem.run Lo.prog (callFunc 45 args) w= .ok (.enter 45 args) w:=Lo.call Try.func45 (by decide) (by decide) (by kernel_rfl) (by kernel_rfl) args w
theorem Lo.call46 (args:Array Value) (w:World):Sem.run Lo.prog (callFunc 46 args) w= .ok (.enter 46 args) w:=Lo.call Try.func46 (by decide) (by decide) (by kernel_rfl) (by kernel_rfl) args w
theorem Lo.call47 (args:Array Value) (w:World):Sem.run Lo.prog (callFunc 47 args) w= .ok (.enter 47 args) w:=Lo.call Try.func47 (by decide) (by decide) (by kernel_rfl) (by kernel_rfl) args w
theorem Lo.call48 (args:Array Value) (w:World):Sem.run Lo.prog (callFunc 48 args) w= .ok (.enter 48 args) w:=Lo.call Try.func48 (by decide) (by decide) (by kernel_rfl) (by kernel_rfl) args w
theorem Lo.call49 (args:Array Value) (w:World):Sem.run Lo.prog (callFunc 49 args) w= .ok (.enter 49 args) w:=Lo.call Try.func49 (by decide) (by decide) (by kernel_rfl) (by kernel_rfl) args w
theorem Lo.call50 (args:Array Value) (w:World):Sem.run Lo.prog (callFunc 50 args) w= .ok (.enter 50 args) w:=Lo.call Try.func50 (by decide) (by decide) (by kernel_rfl) (by kernel_rfl) args w
theorem Lo.call51 (args:Array Value) (w:World):Sem.run Lo.prog (callFunc 51 args) w= .ok (.enter 51 args) w:=Lo.call Try.func51 (by decide) (by decide) (by kernel_rfl) (by kernel_rfl) args w
theorem Lo.call52 (args:Array Value) (w:World):Sem.run Lo.prog (callFunc 52 args) w= .ok (.enter 52 args) w:=Lo.call Try.func52 (by decide) (by decide) (by kernel_rfl) (by kernel_rfl) args w
theorem Lo.call53 (args:Array Value) (w:World):Sem.run Lo.prog (callFunc 53 args) w= .ok (.enter 53 args) w:=Lo.call Try.func53 (by decide) (by decide) (by kernel_rfl) (by kernel_rfl) args w
theorem Lo.call54 (args:Array Value) (w:World):Sem.run Lo.prog (callFunc 54 args) w= .ok (.enter 54 args) w:=Lo.call Try.func54 (by decide) (by decide) (by kernel_rfl) (by kernel_rfl) args w
theorem Lo.call55 (args:Array Value) (w:World):Sem.run Lo.prog (callFunc 55 args) w= .ok (.enter 55 args) w:=Lo.call Try.func55 (by decide) (by decide) (by kernel_rfl) (by kernel_rfl) args w
theorem Lo.call77 (args:Array Value) (w:World):Sem.run Lo.prog (callFunc 77 args) w= .ok (.enter 77 args) w:=Lo.call Try.func77 (by decide) (by decide) (by kernel_rfl) (by kernel_rfl) args w
theorem Lo.call78 (args:Array Value) (w:World):Sem.run Lo.prog (callFunc 78 args) w= .ok (.enter 78 args) w:=Lo.call Try.func78 (by decide) (by decide) (by kernel_rfl) (by kernel_rfl) args w
theorem Lo.call79 (args:Array Value) (w:World):Sem.run Lo.prog (callFunc 79 args) w= .ok (.enter 79 args) w:=Lo.call Try.func79 (by decide) (by decide) (by kernel_rfl) (by kernel_rfl) args w
theorem Lo.call80 (args:Array Value) (w:World):Sem.run Lo.prog (callFunc 80 args) w= .ok (.enter 80 args) w:=Lo.call Try.func80 (by decide) (by decide) (by kernel_rfl) (by kernel_rfl) args w
theorem Lo.call81 (args:Array Value) (w:World):Sem.run Lo.prog (callFunc 81 args) w= .ok (.enter 81 args) w:=Lo.call Try.func81 (by decide) (by decide) (by kernel_rfl) (by kernel_rfl) args w
theorem Lo.call82 (args:Array Value) (w:World):Sem.run Lo.prog (callFunc 82 args) w= .ok (.enter 82 args) w:=Lo.call Try.func82 (by decide) (by decide) (by kernel_rfl) (by kernel_rfl) args w
theorem Lo.call83 (args:Array Value) (w:World):Sem.run Lo.prog (callFunc 83 args) w= .ok (.enter 83 args) w:=Lo.call Try.func83 (by decide) (by decide) (by kernel_rfl) (by kernel_rfl) args w
theorem Lo.call93 (args:Array Value) (w:World):Sem.run Lo.prog (callFunc 93 args) w= .ok (.enter 93 args) w:=Lo.call Try.func93 (by decide) (by decide) (by kernel_rfl) (by kernel_rfl) args w
theorem Lo.call94 (args:Array Value) (w:World):Sem.run Lo.prog (callFunc 94 args) w= .ok (.enter 94 args) w:=Lo.call Try.func94 (by decide) (by decide) (by kernel_rfl) (by kernel_rfl) args w
theorem Lo.call95 (args:Array Value) (w:World):Sem.run Lo.prog (callFunc 95 args) w= .ok (.enter 95 args) w:=Lo.call Try.func95 (by decide) (by decide) (by kernel_rfl) (by kernel_rfl) args w
theorem Lo.call96 (args:Array Value) (w:World):Sem.run Lo.prog (callFunc 96 args) w= .ok (.enter 96 args) w:=Lo.call Try.func96 (by decide) (by decide) (by kernel_rfl) (by kernel_rfl) args w
theorem Lo.call104 (args:Array Value) (w:World):Sem.run Lo.prog (callFunc 104 args) w= .ok (.enter 104 args) w:=Lo.call Try.func104 (by decide) (by decide) (by kernel_rfl) (by kernel_rfl) args w
end
end Go.Proofs
