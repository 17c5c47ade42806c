/- Part 2. -/
import Derived.Test.YtnemnkmojiljmaaGreatProg
import Derived.WalkKit
import Derived.Below
import Derived.Deep.QuietTactic
import Derived.BigQuiet
import Derived.Lib.Hide
import Derived.IntWalk
import Derived.Outline
import Derived.KernelRfl
import Derived.Laws.NewBlocks
import Derived.Laws.BitsLemmas
import Derived.Laws.AppendOwn
import Derived.RangeFuncRecord
import Derived.Test.YtnemnkmojiljmaaGreatB01
set_option maxRecDepth 100000
set_option maxHeartbeats 0
set_option linter.all false
abbrev dw:=@Go.Lib.hid
abbrev dm:=@Go.World.cell?_of_block
abbrev di:=@Go.RowKit.Below.refl
abbrev dh:=@Go.World.cell?_alloc_past
abbrev cZ:=@Go.RowKit.Below.heap_alloc
abbrev cO:=@Go.World.cell?_alloc_at
abbrev cK:=@Go.World.alloc_heap_new
abbrev cB:=@Go.IntKind.wrap_i64
namespace Par
open Go
theorem nU (P:Program) (q:FuncId) (c:Code) (t:TypeId):(P.stub q c).underlying t=P.underlying t:=rfl
theorem wD (P:Program) (q:FuncId) (c:Code) (t:TypeId):(P.stub q c).info? t=P.info? t:=rfl
theorem BB (P:Program) (q:FuncId) (c:Code) (t:TypeId):(P.stub q c).cellsOf t=P.cellsOf t:=rfl
theorem BC (P:Program) (q:FuncId) (c:Code) (t:TypeId):(P.stub q c).bytesOf t=P.bytesOf t:=rfl
theorem uj (P:Program) (q:FuncId) (c:Code) {k:FuncId} {f:Func} (h:P.funcs[k]?=some f) (hk:k≠q):(P.stub q c).funcs[k]?=some f:=by
 show (P.funcs.modify q _)[k]?=some f
 rw [bB,h,aa (λe=>hk e.symm)]
section
variable (P:Program) (q:FuncId) (c:Code) (t:TypeId) (w:World)
theorem uz:Sem.run (P.stub q c) (Go.underlying t) w=Sem.run P (Go.underlying t) w:=by
 unfold Go.underlying;simp only [program,Bind.bind,Sem.bind,Sem.run,nU];cases P.underlying t<;>rfl
theorem zU:Sem.run (P.stub q c) (Go.typeInfo t) w=Sem.run P (Go.typeInfo t) w:=by
 unfold Go.typeInfo;simp only [program,Bind.bind,Sem.bind,Sem.run,wD];cases P.info? t<;>rfl
theorem DU:Sem.run (P.stub q c) (Go.sizeOf t) w=Sem.run P (Go.sizeOf t) w:=by
 unfold Go.sizeOf Go.typeInfo;simp only [program,Bind.bind,Sem.bind,Sem.run,wD];cases P.info? t<;>rfl
theorem EU:Sem.run (P.stub q c) (Go.isAgg t) w=Sem.run P (Go.isAgg t) w:=by
 unfold Go.isAgg Go.underlying;simp only [program,Bind.bind,Sem.bind,Sem.run,nU];cases P.underlying t with
 |none=>rfl
 |some d=>cases d<;>rfl
theorem yL:Sem.run (P.stub q c) (Go.zeroValue t) w=Sem.run P (Go.zeroValue t) w:=by
 unfold Go.zeroValue Go.typeInfo;simp only [program,Bind.bind,Sem.bind,Sem.run,wD];cases P.info? t with
 |none=>rfl
 |some i=>
  show Sem.run _ (match i.zero with |some v=>Pure.pure v|none=>_) w=Sem.run _ (match i.zero with |some v=>Pure.pure v|none=>_) w;cases i.zero<;>rfl
theorem PY {k:FuncId} (args:Array Value) (hk:k≠q) {f:Func} (hf:P.funcs[k]?=some f) (hb:f.body.isNone=false) (hn:(f.name== "runtime.NumGoroutine")=false):Sem.run (P.stub q c) (callFunc k args) w= .ok (.enter k args) w:=by
 unfold callFunc;simp only [program,Bind.bind,Sem.bind,Sem.run,uj P q c hf hk,hb,hn];rfl
end
end Par
namespace Go.Proofs
open Go Go.RowKit
def Tryz.c0:Code:=(Code.region 0 #[{ dst:=some 0,op:=.assign (.const (.bool true)),type:=4,pos:= "",after:= #[],guard:=none }] false).seq Code.ret
class Lo.St where
 c5:Code
 c16:Code
section
variable [Lo.St]
noncomputable def Lo.prog:Program:=(Tryz.prog.stub 14 Lo.St.c5).stub 28 Lo.St.c16
theorem Lo.jB:Lo.prog=(Tryz.prog.stub 14 Lo.St.c5).stub 28 Lo.St.c16:=by unfold Lo.prog;rfl
theorem Lo.underlying (t:TypeId):Lo.prog.underlying t=Tryz.prog.underlying t:=by rw [Lo.jB];exact (Par.nU _ _ _ _).trans (Par.nU _ _ _ _)
theorem Lo.info (t:TypeId):Lo.prog.info? t=Tryz.prog.info? t:=by rw [Lo.jB];exact (Par.wD _ _ _ _).trans (Par.wD _ _ _ _)
theorem Lo.cellsOf (t:TypeId):Lo.prog.cellsOf t=Tryz.prog.cellsOf t:=by rw [Lo.jB];exact (Par.BB _ _ _ _).trans (Par.BB _ _ _ _)
theorem Lo.bytesOf (t:TypeId):Lo.prog.bytesOf t=Tryz.prog.bytesOf t:=by rw [Lo.jB];exact (Par.BC _ _ _ _).trans (Par.BC _ _ _ _)
theorem Lo.get {k:FuncId} {f:Func} (h:Tryz.prog.funcs[k]?=some f) (hk:k≠14) (hk2:k≠28):Lo.prog.funcs[k]?=some f:=by rw [Lo.jB];exact Par.uj _ _ _ (Par.uj _ _ _ h hk) hk2
theorem Lo.runUnderlying (t:TypeId) (w:World):Sem.run Lo.prog (Go.underlying t) w=Sem.run Tryz.prog (Go.underlying t) w:=by rw [Lo.jB];exact (Par.uz ..).trans (Par.uz ..)
theorem Lo.typeInfo (t:TypeId) (w:World):Sem.run Lo.prog (Go.typeInfo t) w=Sem.run Tryz.prog (Go.typeInfo t) w:=by rw [Lo.jB];exact (Par.zU ..).trans (Par.zU ..)
theorem Lo.sizeOf (t:TypeId) (w:World):Sem.run Lo.prog (Go.sizeOf t) w=Sem.run Tryz.prog (Go.sizeOf t) w:=by rw [Lo.jB];exact (Par.DU ..).trans (Par.DU ..)
theorem Lo.isAgg (t:TypeId) (w:World):Sem.run Lo.prog (Go.isAgg t) w=Sem.run Tryz.prog (Go.isAgg t) w:=by rw [Lo.jB];exact (Par.EU ..).trans (Par.EU ..)
theorem Lo.zeroValue (t:TypeId) (w:World):Sem.run Lo.prog (Go.zeroValue t) w=Sem.run Tryz.prog (Go.zeroValue t) w:=by rw [Lo.jB];exact (Par.yL ..).trans (Par.yL ..)
theorem Lo.call {k:FuncId} {f:Func} (hf:Tryz.prog.funcs[k]?=some f) (hk:k≠14) (hk2:k≠28) (hb:f.body.isNone=false) (hn:(f.name== "runtime.NumGoroutine")=false) (args:Array Value) (w:World):Sem.run Lo.prog (callFunc k args) w= .ok (.enter k args) w:=by rw [Lo.jB];exact Par.PY _ _ _ _ _ hk2 (Par.uj _ _ _ hf hk) hb hn
theorem Lo.facts:(∀t,Lo.prog.underlying t=Tryz.prog.underlying t)∧(∀t w,Sem.run Lo.prog (Go.underlying t) w=Sem.run Tryz.prog (Go.underlying t) w)∧(∀t w,Sem.run Lo.prog (Go.sizeOf t) w=Sem.run Tryz.prog (Go.sizeOf t) w)∧(∀t w,Sem.run Lo.prog (Go.typeInfo t) w=Sem.run Tryz.prog (Go.typeInfo t) w)∧(∀t w,Sem.run Lo.prog (Go.isAgg t) w=Sem.run Tryz.prog (Go.isAgg t) w)∧∀t w,Sem.run Lo.prog (Go.zeroValue t) w=Sem.run Tryz.prog (Go.zeroValue t) w:=⟨Lo.underlying,Lo.runUnderlying,Lo.sizeOf,Lo.typeInfo,Lo.isAgg,Lo.zeroValue⟩
theorem Lo.func35:Lo.prog.funcs[35]?=some Tryz.f35:=Lo.get Tryz.func35 (by decide) (by decide)
theorem Lo.func39:Lo.prog.funcs[39]?=some Tryz.f39:=Lo.get Tryz.func39 (by decide) (by decide)
theorem Lo.func34:Lo.prog.funcs[34]?=some Tryz.f34:=Lo.get Tryz.func34 (by decide) (by decide)
theorem Lo.func30:Lo.prog.funcs[30]?=some Tryz.f30:=Lo.get Tryz.func30 (by decide) (by decide)
theorem Lo.func42:Lo.prog.funcs[42]?=some Tryz.f42:=Lo.get Tryz.func42 (by decide) (by decide)
theorem Lo.func15:Lo.prog.funcs[15]?=some Tryz.f15:=Lo.get Tryz.func15 (by decide) (by decide)
theorem Lo.func20:Lo.prog.funcs[20]?=some Tryz.f20:=Lo.get Tryz.func20 (by decide) (by decide)
theorem Lo.func22:Lo.prog.funcs[22]?=some Tryz.f22:=Lo.get Tryz.func22 (by decide) (by decide)
theorem Lo.func24:Lo.prog.funcs[24]?=some Tryz.f24:=Lo.get Tryz.func24 (by decide) (by decide)
theorem Lo.func19:Lo.prog.funcs[19]?=some Tryz.f19:=Lo.get Tryz.func19 (by decide) (by decide)
theorem Lo.func71:Lo.prog.funcs[71]?=some Tryz.f71:=Lo.get Tryz.func71 (by decide) (by decide)
theorem Lo.func72:Lo.prog.funcs[72]?=some Tryz.f72:=Lo.get Tryz.func72 (by decide) (by decide)
theorem Lo.func73:Lo.prog.funcs[73]?=some Tryz.f73:=Lo.get Tryz.func73 (by decide) (by decide)
theorem Lo.func74:Lo.prog.funcs[74]?=some Tryz.f74:=Lo.get Tryz.func74 (by decide) (by decide)
theorem Lo.func75:Lo.prog.funcs[75]?=some Tryz.f75:=Lo.get Tryz.func75 (by decide) (by decide)
theorem Lo.func37:Lo.prog.funcs[37]?=some Tryz.f37:=Lo.get Tryz.func37 (by decide) (by decide)
theorem Lo.func54:Lo.prog.funcs[54]?=some Tryz.f54:=Lo.get Tryz.func54 (by decide) (by decide)
theorem Lo.func55:Lo.prog.funcs[55]?=some Tryz.f55:=Lo.get Tryz.func55 (by decide) (by decide)
theorem Lo.func17:Lo.prog.funcs[17]?=some Tryz.f17:=Lo.get Tryz.func17 (by decide) (by decide)
theorem Lo.func43:Lo.prog.funcs[43]?=some Tryz.f43:=Lo.get Tryz.func43 (by decide) (by decide)
theorem Lo.func49:Lo.prog.funcs[49]?=some Tryz.f49:=Lo.get Tryz.func49 (by decide) (by decide)
theorem Lo.func56:Lo.prog.funcs[56]?=some Tryz.f56:=Lo.get Tryz.func56 (by decide) (by decide)
theorem Lo.func57:Lo.prog.funcs[57]?=some Tryz.f57:=Lo.get Tryz.func57 (by decide) (by decide)
theorem Lo.func58:Lo.prog.funcs[58]?=some Tryz.f58:=Lo.get Tryz.func58 (by decide) (by decide)
theorem Lo.func59:Lo.prog.funcs[59]?=some Tryz.f59:=Lo.get Tryz.func59 (by decide) (by decide)
theorem Lo.func60:Lo.prog.funcs[60]?=some Tryz.f60:=Lo.get Tryz.func60 (by decide) (by decide)
theorem Lo.func61:Lo.prog.funcs[61]?=some Tryz.f61:=Lo.get Tryz.func61 (by decide) (by decide)
theorem Lo.func65:Lo.prog.funcs[65]?=some Tryz.f65:=Lo.get Tryz.func65 (by decide) (by decide)
theorem Lo.func66:Lo.prog.funcs[66]?=some Tryz.f66:=Lo.get Tryz.func66 (by decide) (by decide)
theorem Lo.func112:Lo.prog.funcs[112]?=some Tryz.f112:=Lo.get Tryz.func112 (by decide) (by decide)
theorem Lo.func113:Lo.prog.funcs[113]?=some Tryz.f113:=Lo.get Tryz.func113 (by decide) (by decide)
theorem Lo.func50:Lo.prog.funcs[50]?=some Tryz.f50:=Lo.get Tryz.func50 (by decide) (by decide)
theorem Lo.func114:Lo.prog.funcs[114]?=some Tryz.f114:=Lo.get Tryz.func114 (by decide) (by decide)
theorem Lo.func115:Lo.prog.funcs[115]?=some Tryz.f115:=Lo.get Tryz.func115 (by decide) (by decide)
theorem Lo.func116:Lo.prog.funcs[116]?=some Tryz.f116:=Lo.get Tryz.func116 (by decide) (by decide)
theorem Lo.func47:Lo.prog.funcs[47]?=some Tryz.f47:=Lo.get Tryz.func47 (by decide) (by decide)
theorem Lo.func48:Lo.prog.funcs[48]?=some Tryz.f48:=Lo.get Tryz.func48 (by decide) (by decide)
theorem Lo.func79:Lo.prog.funcs[79]?=some Tryz.f79:=Lo.get Tryz.func79 (by decide) (by decide)
theorem Lo.func87:Lo.prog.funcs[87]?=some Tryz.f87:=Lo.get Tryz.func87 (by decide) (by decide)
theorem Lo.func88:Lo.prog.funcs[88]?=some Tryz.f88:=Lo.get Tryz.func88 (by decide) (by decide)
theorem Lo.func89:Lo.prog.funcs[89]?=some Tryz.f89:=Lo.get Tryz.func89 (by decide) (by decide)
theorem Lo.func90:Lo.prog.funcs[90]?=some Tryz.f90:=Lo.get Tryz.func90 (by decide) (by decide)
theorem Lo.func132:Lo.prog.funcs[132]?=some Tryz.f132:=Lo.get Tryz.func132 (by decide) (by decide)
theorem Lo.func133:Lo.prog.funcs[133]?=some Tryz.f133:=Lo.get Tryz.func133 (by decide) (by decide)
theorem Lo.func83:Lo.prog.funcs[83]?=some Tryz.f83:=Lo.get Tryz.func83 (by decide) (by decide)
theorem Lo.func84:Lo.prog.funcs[84]?=some Tryz.f84:=Lo.get Tryz.func84 (by decide) (by decide)
theorem Lo.func117:Lo.prog.funcs[117]?=some Tryz.f117:=Lo.get Tryz.func117 (by decide) (by decide)
theorem Lo.func121:Lo.prog.funcs[121]?=some Tryz.f121:=Lo.get Tryz.func121 (by decide) (by decide)
theorem Lo.func122:Lo.prog.funcs[122]?=some Tryz.f122:=Lo.get Tryz.func122 (by decide) (by decide)
theorem Lo.func118:Lo.prog.funcs[118]?=some Tryz.f118:=Lo.get Tryz.func118 (by decide) (by decide)
theorem Lo.func119:Lo.prog.funcs[119]?=some Tryz.f119:=Lo.get Tryz.func119 (by decide) (by decide)
theorem Lo.func120:Lo.prog.funcs[120]?=some Tryz.f120:=Lo.get Tryz.func120 (by decide) (by decide)
theorem Lo.func135:Lo.prog.funcs[135]?=some Tryz.f135:=Lo.get Tryz.func135 (by decide) (by decide)
theorem Lo.func134:Lo.prog.funcs[134]?=some Tryz.f134:=Lo.get Tryz.func134 (by decide) (by decide)
theorem Lo.call35 (args:Array Value) (w:World):Sem.run Lo.prog (callFunc 35 args) w= .ok (.enter 35 args) w:=Lo.call Tryz.func35 (by decide) (by decide) (by kernel_rfl) (by kernel_rfl) args w
theorem Lo.call39 (args:Array Value) (w:World):Sem.run Lo.prog (callFunc 39 args) w= .ok (.enter 39 args) w:=Lo.call Tryz.func39 (by decide) (by decide) (by kernel_rfl) (by kernel_rfl) args w
theorem Lo.call34 (args:Array Value) (w:World):Sem.run Lo.prog (callFunc 34 args) w= .ok (.enter 34 args) w:=Lo.call Tryz.func34 (by decide) (by decide) (by kernel_rfl) (by kernel_rfl) args w
theorem Lo.call30 (args:Array Value) (w:World):Sem.run Lo.prog (callFunc 30 args) w= .ok (.enter 30 args) w:=Lo.call Tryz.func30 (by decide) (by decide) (by kernel_rfl) (by kernel_rfl) args w
theorem Lo.call42 (args:Array Value) (w:World):Sem.run Lo.prog (callFunc 42 args) w= .ok (.enter 42 args) w:=Lo.call Tryz.func42 (by decide) (by decide) (by kernel_rfl) (by kernel_rfl) args w
theorem Lo.call15 (args:Array Value) (w:World):Sem.run Lo.prog (callFunc 15 args) w= .ok (.enter 15 args) w:=Lo.call Tryz.func15 (by decide) (by decide) (by kernel_rfl) (by kernel_rfl) args w
theorem Lo.call20 (args:Array Value) (w:World):Sem.run Lo.prog (callFunc 20 args) w= .ok (.enter 20 args) w:=Lo.call Tryz.func20 (by decide) (by decide) (by kernel_rfl) (by kernel_rfl) args w
theorem Lo.call22 (args:Array Value) (w:World):Sem.run Lo.prog (callFunc 22 args) w= .ok (.enter 22 args) w:=Lo.call Tryz.func22 (by decide) (by decide) (by kernel_rfl) (by kernel_rfl) args w
theorem Lo.call24 (args:Array Value) (w:World):Sem.run Lo.prog (callFunc 24 args) w= .ok (.enter 24 args) w:=Lo.call Tryz.func24 (by decide) (by decide) (by kernel_rfl) (by kernel_rfl) args w
theorem Lo.call19 (args:Array Value) (w:World):Sem.run Lo.prog (callFunc 19 args) w= .ok (.enter 19 args) w:=Lo.call Tryz.func19 (by decide) (by decide) (by kernel_rfl) (by kernel_rfl) args w
theorem Lo.call71 (args:Array Value) (w:World):Sem.run Lo.prog (callFunc 71 args) w= .ok (.enter 71 args) w:=Lo.call Tryz.func71 (by decide) (by decide) (by kernel_rfl) (by kernel_rfl) args w
theorem Lo.call72 (args:Array Value) (w:World):Sem.run Lo.prog (callFunc 72 args) w= .ok (.enter 72 args) w:=Lo.call Tryz.func72 (by decide) (by decide) (by kernel_rfl) (by kernel_rfl) args w
theorem Lo.call73 (args:Array Value) (w:World):Sem.run Lo.prog (callFunc 73 args) w= .ok (.enter 73 args) w:=Lo.call Tryz.func73 (by decide) (by decide) (by kernel_rfl) (by kernel_rfl) args w
theorem Lo.call74 (args:Array Value) (w:World):Sem.run Lo.prog (callFunc 74 args) w= .ok (.enter 74 args) w:=Lo.call Tryz.func74 (by decide) (by decide) (by kernel_rfl) (by kernel_rfl) args w
theorem Lo.call75 (args:Array Value) (w:World):Sem.run Lo.prog (callFunc 75 args) w= .ok (.enter 75 args) w:=Lo.call Tryz.func75 (by decide) (by decide) (by kernel_rfl) (by kernel_rfl) args w
theorem Lo.call37 (args:Array Value) (w:World):Sem.run Lo.prog (callFunc 37 args) w= .ok (.enter 37 args) w:=Lo.call Tryz.func37 (by decide) (by decide) (by kernel_rfl) (by kernel_rfl) args w
theorem Lo.call54 (args:Array Value) (w:World):Sem.run Lo.prog (callFunc 54 args) w= .ok (.enter 54 args) w:=Lo.call Tryz.func54 (by decide) (by decide) (by kernel_rfl) (by kernel_rfl) args w
theorem Lo.call55 (args:Array Value) (w:World):Sem.run Lo.prog (callFunc 55 args) w= .ok (.enter 55 args) w:=Lo.call Tryz.func55 (by decide) (by decide) (by kernel_rfl) (by kernel_rfl) args w
theorem Lo.call17 (args:Array Value) (w:World):Sem.run Lo.prog (callFunc 17 args) w= .ok (.enter 17 args) w:=Lo.call Tryz.func17 (by decide) (by decide) (by kernel_rfl) (by kernel_rfl) args w
theorem Lo.call43 (args:Array Value) (w:World):Sem.run Lo.prog (callFunc 43 args) w= .ok (.enter 43 args) w:=Lo.call Tryz.func43 (by decide) (by decide) (by kernel_rfl) (by kernel_rfl) args w
theorem Lo.call49 (args:Array Value) (w:World):Sem.run Lo.prog (callFunc 49 args) w= .ok (.enter 49 args) w:=Lo.call Tryz.func49 (by decide) (by decide) (by kernel_rfl) (by kernel_rfl) args w
theorem Lo.call56 (args:Array Value) (w:World):Sem.run Lo.prog (callFunc 56 args) w= .ok (.enter 56 args) w:=Lo.call Tryz.func56 (by decide) (by decide) (by kernel_rfl) (by kernel_rfl) args w
theorem Lo.call57 (args:Array Value) (w:World):Sem.run Lo.prog (callFunc 57 args) w= .ok (.enter 57 args) w:=Lo.call Tryz.func57 (by decide) (by decide) (by kernel_rfl) (by kernel_rfl) args w
theorem Lo.func91:Lo.prog.funcs[91]?=some Tryz.f91:=Lo.get Tryz.func91 (by decide) (by decide)
theorem Lo.call91 (args:Array Value) (w:World):Sem.run Lo.prog (callFunc 91 args) w= .ok (.enter 91 args) w:=Lo.call Tryz.func91 (by decide) (by decide) (by kernel_rfl) (by kernel_rfl) args w
theorem Lo.call59 (args:Array Value) (w:World):Sem.run Lo.prog (callFunc 59 args) w= .ok (.enter 59 args) w:=Lo.call Tryz.func59 (by decide) (by decide) (by kernel_rfl) (by kernel_rfl) args w
theorem Lo.call60 (args:Array Value) (w:World):Sem.run Lo.prog (callFunc 60 args) w= .ok (.enter 60 args) w:=Lo.call Tryz.func60 (by decide) (by decide) (by kernel_rfl) (by kernel_rfl) args w
theorem Lo.call61 (args:Array Value) (w:World):Sem.run Lo.prog (callFunc 61 args) w= .ok (.enter 61 args) w:=Lo.call Tryz.func61 (by decide) (by decide) (by kernel_rfl) (by kernel_rfl) args w
theorem Lo.call112 (args:Array Value) (w:World):Sem.run Lo.prog (callFunc 112 args) w= .ok (.enter 112 args) w:=Lo.call Tryz.func112 (by decide) (by decide) (by kernel_rfl) (by kernel_rfl) args w
theorem Lo.call113 (args:Array Value) (w:World):Sem.run Lo.prog (callFunc 113 args) w= .ok (.enter 113 args) w:=Lo.call Tryz.func113 (by decide) (by decide) (by kernel_rfl) (by kernel_rfl) args w
theorem Lo.call50 (args:Array Value) (w:World):Sem.run Lo.prog (callFunc 50 args) w= .ok (.enter 50 args) w:=Lo.call Tryz.func50 (by decide) (by decide) (by kernel_rfl) (by kernel_rfl) args w
theorem Lo.call114 (args:Array Value) (w:World):Sem.run Lo.prog (callFunc 114 args) w= .ok (.enter 114 args) w:=Lo.call Tryz.func114 (by decide) (by decide) (by kernel_rfl) (by kernel_rfl) args w
theorem Lo.call115 (args:Array Value) (w:World):Sem.run Lo.prog (callFunc 115 args) w= .ok (.enter 115 args) w:=Lo.call Tryz.func115 (by decide) (by decide) (by kernel_rfl) (by kernel_rfl) args w
theorem Lo.call116 (args:Array Value) (w:World):Sem.run Lo.prog (callFunc 116 args) w= .ok (.enter 116 args) w:=Lo.call Tryz.func116 (by decide) (by decide) (by kernel_rfl) (by kernel_rfl) args w
theorem Lo.call47 (args:Array Value) (w:World):Sem.run Lo.prog (callFunc 47 args) w= .ok (.enter 47 args) w:=Lo.call Tryz.func47 (by decide) (by decide) (by kernel_rfl) (by kernel_rfl) args w
theorem Lo.call48 (args:Array Value) (w:World):Sem.run Lo.prog (callFunc 48 args) w= .ok (.enter 48 args) w:=Lo.call Tryz.func48 (by decide) (by decide) (by kernel_rfl) (by kernel_rfl) args w
theorem Lo.call79 (args:Array Value) (w:World):Sem.run Lo.prog (callFunc 79 args) w= .ok (.enter 79 args) w:=Lo.call Tryz.func79 (by decide) (by decide) (by kernel_rfl) (by kernel_rfl) args w
theorem Lo.call87 (args:Array Value) (w:World):Sem.run Lo.prog (callFunc 87 args) w= .ok (.enter 87 args) w:=Lo.call Tryz.func87 (by decide) (by decide) (by kernel_rfl) (by kernel_rfl) args w
theorem Lo.call88 (args:Array Value) (w:World):Sem.run Lo.prog (callFunc 88 args) w= .ok (.enter 88 args) w:=Lo.call Tryz.func88 (by decide) (by decide) (by kernel_rfl) (by kernel_rfl) args w
theorem Lo.call89 (args:Array Value) (w:World):Sem.run Lo.prog (callFunc 89 args) w= .ok (.enter 89 args) w:=Lo.call Tryz.func89 (by decide) (by decide) (by kernel_rfl) (by kernel_rfl) args w
theorem Lo.call90 (args:Array Value) (w:World):Sem.run Lo.prog (callFunc 90 args) w= .ok (.enter 90 args) w:=Lo.call Tryz.func90 (by decide) (by decide) (by kernel_rfl) (by kernel_rfl) args w
theorem Lo.call132 (args:Array Value) (w:World):Sem.run Lo.prog (callFunc 132 args) w= .ok (.enter 132 args) w:=Lo.call Tryz.func132 (by decide) (by decide) (by kernel_rfl) (by kernel_rfl) args w
theorem Lo.call133 (args:Array Value) (w:World):Sem.run Lo.prog (callFunc 133 args) w= .ok (.enter 133 args) w:=Lo.call Tryz.func133 (by decide) (by decide) (by kernel_rfl) (by kernel_rfl) args w
theorem Lo.call83 (args:Array Value) (w:World):Sem.run Lo.prog (callFunc 83 args) w= .ok (.enter 83 args) w:=Lo.call Tryz.func83 (by decide) (by decide) (by kernel_rfl) (by kernel_rfl) args w
theorem Lo.call84 (args:Array Value) (w:World):Sem.run Lo.prog (callFunc 84 args) w= .ok (.enter 84 args) w:=Lo.call Tryz.func84 (by decide) (by decide) (by kernel_rfl) (by kernel_rfl) args w
theorem Lo.call117 (args:Array Value) (w:World):Sem.run Lo.prog (callFunc 117 args) w= .ok (.enter 117 args) w:=Lo.call Tryz.func117 (by decide) (by decide) (by kernel_rfl) (by kernel_rfl) args w
theorem Lo.call121 (args:Array Value) (w:World):Sem.run Lo.prog (callFunc 121 args) w= .ok (.enter 121 args) w:=Lo.call Tryz.func121 (by decide) (by decide) (by kernel_rfl) (by kernel_rfl) args w
theorem Lo.call122 (args:Array Value) (w:World):Sem.run Lo.prog (callFunc 122 args) w= .ok (.enter 122 args) w:=Lo.call Tryz.func122 (by decide) (by decide) (by kernel_rfl) (by kernel_rfl) args w
theorem Lo.call118 (args:Array Value) (w:World):Sem.run Lo.prog (callFunc 118 args) w= .ok (.enter 118 args) w:=Lo.call Tryz.func118 (by decide) (by decide) (by kernel_rfl) (by kernel_rfl) args w
theorem Lo.call119 (args:Array Value) (w:World):Sem.run Lo.prog (callFunc 119 args) w= .ok (.enter 119 args) w:=Lo.call Tryz.func119 (by decide) (by decide) (by kernel_rfl) (by kernel_rfl) args w
theorem Lo.call120 (args:Array Value) (w:World):Sem.run Lo.prog (callFunc 120 args) w= .ok (.enter 120 args) w:=Lo.call Tryz.func120 (by decide) (by decide) (by kernel_rfl) (by kernel_rfl) args w
theorem Lo.call135 (args:Array Value) (w:World):Sem.run Lo.prog (callFunc 135 args) w= .ok (.enter 135 args) w:=Lo.call Tryz.func135 (by decide) (by decide) (by kernel_rfl) (by kernel_rfl) args w
theorem Lo.call134 (args:Array Value) (w:World):Sem.run Lo.prog (callFunc 134 args) w= .ok (.enter 134 args) w:=Lo.call Tryz.func134 (by decide) (by decide) (by kernel_rfl) (by kernel_rfl) args w
theorem Lo.func10:Lo.prog.funcs[10]?=some Tryz.f10:=Lo.get Tryz.func10 (by decide) (by decide)
theorem Lo.func31:Lo.prog.funcs[31]?=some Tryz.f31:=Lo.get Tryz.func31 (by decide) (by decide)
theorem Lo.call31 (args:Array Value) (w:World):Sem.run Lo.prog (callFunc 31 args) w= .ok (.enter 31 args) w:=Lo.call Tryz.func31 (by decide) (by decide) (by kernel_rfl) (by kernel_rfl) args w
theorem Lo.func36:Lo.prog.funcs[36]?=some Tryz.f36:=Lo.get Tryz.func36 (by decide) (by decide)
theorem Lo.call36 (args:Array Value) (w:World):Sem.run Lo.prog (callFunc 36 args) w= .ok (.enter 36 args) w:=Lo.call Tryz.func36 (by decide) (by decide) (by kernel_rfl) (by kernel_rfl) args w
end
end Go.Proofs
