/- Part 20. -/
import Derived.Test.YtnemnkmojiljmaaProg
import Derived.Conc.MuStep3
import Derived.Test.YtnemnkmojiljmaaF19
set_option maxRecDepth 100000
set_option maxHeartbeats 8000000
set_option linter.all false
namespace Go.Proofs
abbrev Try.link:Go.Conc.Lib.WgLink:={ add:=35,done:=37,wait:=42,relMerge:=57,disable:=58,enable:=59,inBubble:=60,associate:=61,fatal:=62,uOr:=63,uAdd:=64,raceRead:=65,uLoad:=66,uStore:=67,disassociate:=68,semrelease:=69,acquire:=72,isAssociated:=73,uCas:=74,raceWrite:=75,semacquire:=76,orU64:=84,addU64:=85,loadU64:=86,storeU64:=87,casU64:=92,tWgP:=116,tUP:=118,tAssoc:=119,tWg:=87,tAU:=85,tU64:=83,tUint:=93,tU32:=76,tPU32:=123,tPAU:=141,tPU64:=143,tNoCopy:=75,tANoCopy:=81,tAlign64:=82 }
theorem Try.iB:Go.Conc.Lib.WgLib Try.prog Try.link:=
 ⟨Try.func35,Try.func37,Try.func42,Try.func57,Try.func58,Try.func59,Try.func60,Try.func61,Try.func62,Try.func63,Try.func64,Try.func65,Try.func66,Try.func67,Try.func68,Try.func69,Try.func72,Try.func73,Try.func74,Try.func75,Try.func76,Try.func84,Try.func85,Try.func86,Try.func87,Try.func92,Try.underlying116,Try.runUnderlying116,Try.sizeOf116,Try.isAgg116,Try.zeroValue116,Try.underlying118,Try.runUnderlying118,Try.sizeOf118,Try.isAgg118,Try.zeroValue118,Try.underlying119,Try.runUnderlying119,Try.sizeOf119,Try.isAgg119,Try.zeroValue119,Try.underlying87,Try.runUnderlying87,Try.sizeOf87,Try.isAgg87,Try.zeroValue87,Try.underlying85,Try.runUnderlying85,Try.sizeOf85,Try.isAgg85,Try.zeroValue85,Try.underlying83,Try.runUnderlying83,Try.sizeOf83,Try.isAgg83,Try.zeroValue83,Try.underlying93,Try.runUnderlying93,Try.sizeOf93,Try.isAgg93,Try.zeroValue93,Try.underlying76,Try.runUnderlying76,Try.sizeOf76,Try.isAgg76,Try.zeroValue76,Try.underlying123,Try.runUnderlying123,Try.sizeOf123,Try.isAgg123,Try.zeroValue123,Try.underlying141,Try.runUnderlying141,Try.sizeOf141,Try.isAgg141,Try.zeroValue141,Try.underlying143,Try.runUnderlying143,Try.sizeOf143,Try.isAgg143,Try.zeroValue143,Try.underlying0,Try.runUnderlying0,Try.sizeOf0,Try.isAgg0,Try.zeroValue0,Try.underlying3,Try.runUnderlying3,Try.sizeOf3,Try.isAgg3,Try.zeroValue3,Try.underlying4,Try.runUnderlying4,Try.sizeOf4,Try.isAgg4,Try.zeroValue4,Try.underlying9,Try.runUnderlying9,Try.sizeOf9,Try.isAgg9,Try.zeroValue9,Try.underlying20,Try.runUnderlying20,Try.sizeOf20,Try.isAgg20,Try.zeroValue20,Try.underlying21,Try.runUnderlying21,Try.sizeOf21,Try.isAgg21,Try.zeroValue21,(by kernel_rfl),(by kernel_rfl)⟩
end Go.Proofs
namespace Go.Proofs.Try
open Go Go.Conc Go.ConcN Go.ConcM Go.RowKit Go.Conc.Lib Go.ConcR.Gen
theorem TM:(Try.f70.name== "runtime.NumGoroutine")=false:=by kernel_rfl
theorem MZ:(Try.f71.name== "runtime.NumGoroutine")=false:=by kernel_rfl
theorem KG:(Try.f89.name== "runtime.NumGoroutine")=false:=by kernel_rfl
theorem uE:(Try.f91.name== "runtime.NumGoroutine")=false:=by kernel_rfl
theorem Wn:(Try.f40.name== "runtime.NumGoroutine")=false:=by kernel_rfl
theorem G5:(Try.f41.name== "runtime.NumGoroutine")=false:=by kernel_rfl
theorem jf:(Try.f88.name== "runtime.NumGoroutine")=false:=by kernel_rfl
theorem jg:Try.f88.body.isNone=true:=by kernel_rfl
theorem jh:Extern.findNext Try.f88=none:=by kernel_rfl
theorem ji:Extern.find Try.f88=some (Extern.Atomic.casT (.int .i32)):=by kernel_rfl
theorem uf:(Try.f90.name== "runtime.NumGoroutine")=false:=by kernel_rfl
theorem ug:Try.f90.body.isNone=true:=by kernel_rfl
theorem uh:Extern.findNext Try.f90=none:=by kernel_rfl
theorem uj:Extern.find Try.f90=some (Extern.Atomic.update (Op.intArith .add) .i32 true):=by kernel_rfl
theorem jk:(Try.f97.name== "runtime.NumGoroutine")=false:=by kernel_rfl
theorem jl:Try.f97.body.isNone=true:=by kernel_rfl
theorem jm:Extern.findNext Try.f97=none:=by kernel_rfl
theorem jo:Extern.find Try.f97=some (Extern.Sync.canSpin):=by kernel_rfl
theorem zJ:(Try.f98.name== "runtime.NumGoroutine")=false:=by kernel_rfl
theorem zK:Try.f98.body.isNone=true:=by kernel_rfl
theorem zL:Extern.findNext Try.f98=none:=by kernel_rfl
theorem zM:Extern.find Try.f98=some (λ_=>pure (.tuple #[])):=by kernel_rfl
theorem vw:(Try.f100.name== "runtime.NumGoroutine")=false:=by kernel_rfl
theorem vz:Try.f100.body.isNone=true:=by kernel_rfl
theorem vB:Extern.findNext Try.f100=none:=by kernel_rfl
theorem vC:Extern.find Try.f100=some (Extern.OsHooks.nano):=by kernel_rfl
theorem wI:(Try.f101.name== "runtime.NumGoroutine")=false:=by kernel_rfl
theorem wJ:Try.f101.body.isNone=true:=by kernel_rfl
theorem wK:Extern.findNext Try.f101=none:=by kernel_rfl
theorem wM:Extern.find Try.f101=some (Extern.Sync.semacquire):=by kernel_rfl
theorem Fa:(Try.f103.name== "runtime.NumGoroutine")=false:=by kernel_rfl
theorem wN:Try.f103.body.isNone=true:=by kernel_rfl
theorem Fb:Extern.findNext Try.f103=none:=by kernel_rfl
theorem Fe:Extern.find Try.f103=some (Extern.Sync.semrelease):=by kernel_rfl
theorem vD:Try.f100.norace=true:=by kernel_rfl
theorem xV:Try.prog.underlying 146=some (.pointer 78):=by kernel_rfl
theorem CR:(Try.prog.info? 78).map (λi=>decide (i.size=0))=some false:=by kernel_rfl
theorem Qf:(Try.prog.funcs[(base 71).fn]?).any (·.norace)=true:=by kernel_rfl
theorem iT:(Try.prog.funcs[(base 89).fn]?).any (·.norace)=true:=by kernel_rfl
section
variable {main:Bool} {b:Frame} {a:Act} {kk:List Item} {cs:List Frame} {w:World} {ops:Array Oper} {i:Nat} {rest:List Nat} {o:Oper}
theorem gZ {x:Operand} (ho:ops[i]?=some o) (hw:Region.wanted o (yielded ops a.tmps)=true) (hk:b.kind≠ .early) (hop:o.op= .load 21 x)
 {ad:Addr} {v:Int} (hx:a.eval x= .pointer (some ad)) (hc:w.cell? ad=some (.int .i32 v)) (hq:(Try.prog.funcs[b.fn]?).any (·.norace)=true):
 stepG Try.prog main (G (b.at a (.inRegion ops (i::rest)::kk)) cs) w= .go (G (b.at (a.put o.dst (.int .i32 v)) (.inRegion ops rest::kk)) cs) w #[]:=by
 have hr:(execOp a.eval o).run Try.prog w= .ok (.value (.int .i32 v)) w:=by
  unfold execOp;simp only [hop,hx];simp [go_sem,hc]
 have he:(execOp a.eval o).events Try.prog w #[]= #[⟨.cell ad,false,false⟩]:=by
  unfold execOp;simp only [hop,hx];simp [go_sem,hc]
 rw [stepG_value ho hw hk hr];unfold listed;rw [he,seen_def,hq];simp [seenStep]
end
def bO:Code->Option Code
 | .loop c=>some c
 | .seq x y=>match bO x with |some c=>some c|none=>bO y
 | .block _ c=>bO c
 |_=>none
def bN:Code->Option Code
 | .seq (.block _ _) r=>some r
 | .seq _ y=>bN y
 |_=>none
def cB (n:Nat):Code->Option (Array Oper)
 | .region m ops _=>if m=n then some ops else none
 |_=>none
def bW (n:Nat):Code->Option (Array Oper×Code)
 | .seq x y=>match cB n x with
   |some ops=>some (ops,y)
   |none=>match bW n x with
    |some c=>some c
    |none=>bW n y
 | .cond _ x y=>match bW n x with
     |some c=>some c
     |none=>bW n y
 | .block _ c=>bW n c
 | .loop c=>bW n c
 | .region m ops _=>if m=n then some (ops,.skip) else none
 |_=>none
def bR (n:Nat):Code->Option Code
 | .seq x y=>match cB n x with
   |some _=>some (.seq x y)
   |none=>match bR n x with
    |some c=>some c
    |none=>bR n y
 | .cond _ x y=>match bR n x with
     |some c=>some c
     |none=>bR n y
 | .block _ c=>bR n c
 | .loop c=>bR n c
 |_=>none
noncomputable def bY:Code:=Try.f89.body.getD .skip
noncomputable def LL:Code:=(bO bY).getD .skip
noncomputable def REST:Code:=(bN bY).getD .skip
noncomputable def iJ (n:Nat):Array Oper:=((bW n LL).getD (#[],.skip)).1
noncomputable def jv (n:Nat):Code:=(bR n LL).getD .skip
noncomputable def iM (n:Nat):Code:=((bW n LL).getD (#[],.skip)).2
end Go.Proofs.Try
