/- Part 19. -/
import Derived.Test.YtnemnkmojiljmaaGreatProg
import Derived.Conc.MuStep3
import Derived.Test.YtnemnkmojiljmaaGreatB18
set_option maxRecDepth 100000
set_option maxHeartbeats 0
set_option linter.all false
namespace Go.Proofs
abbrev Tryz.link:Go.Conc.Lib.WgLink:={ add:=62,done:=64,wait:=69,relMerge:=92,disable:=93,enable:=94,inBubble:=95,associate:=96,fatal:=97,uOr:=98,uAdd:=99,raceRead:=100,uLoad:=101,uStore:=102,disassociate:=103,semrelease:=104,acquire:=107,isAssociated:=108,uCas:=109,raceWrite:=110,semacquire:=111,orU64:=123,addU64:=124,loadU64:=125,storeU64:=126,casU64:=131,tWgP:=145,tUP:=147,tAssoc:=148,tWg:=104,tAU:=102,tU64:=100,tUint:=111,tU32:=93,tPU32:=152,tPAU:=173,tPU64:=175,tNoCopy:=92,tANoCopy:=98,tAlign64:=99 }
theorem Tryz.jy:Go.Conc.Lib.WgLib Tryz.prog Tryz.link:=
 ⟨Tryz.func62,Tryz.func64,Tryz.func69,Tryz.func92,Tryz.func93,Tryz.func94,Tryz.func95,Tryz.func96,Tryz.func97,Tryz.func98,Tryz.func99,Tryz.func100,Tryz.func101,Tryz.func102,Tryz.func103,Tryz.func104,Tryz.func107,Tryz.func108,Tryz.func109,Tryz.func110,Tryz.func111,Tryz.func123,Tryz.func124,Tryz.func125,Tryz.func126,Tryz.func131,Tryz.underlying145,Tryz.runUnderlying145,Tryz.sizeOf145,Tryz.isAgg145,Tryz.zeroValue145,Tryz.underlying147,Tryz.runUnderlying147,Tryz.sizeOf147,Tryz.isAgg147,Tryz.zeroValue147,Tryz.underlying148,Tryz.runUnderlying148,Tryz.sizeOf148,Tryz.isAgg148,Tryz.zeroValue148,Tryz.underlying104,Tryz.runUnderlying104,Tryz.sizeOf104,Tryz.isAgg104,Tryz.zeroValue104,Tryz.underlying102,Tryz.runUnderlying102,Tryz.sizeOf102,Tryz.isAgg102,Tryz.zeroValue102,Tryz.underlying100,Tryz.runUnderlying100,Tryz.sizeOf100,Tryz.isAgg100,Tryz.zeroValue100,Tryz.underlying111,Tryz.runUnderlying111,Tryz.sizeOf111,Tryz.isAgg111,Tryz.zeroValue111,Tryz.underlying93,Tryz.runUnderlying93,Tryz.sizeOf93,Tryz.isAgg93,Tryz.zeroValue93,Tryz.underlying152,Tryz.runUnderlying152,Tryz.sizeOf152,Tryz.isAgg152,Tryz.zeroValue152,Tryz.underlying173,Tryz.runUnderlying173,Tryz.sizeOf173,Tryz.isAgg173,Tryz.zeroValue173,Tryz.underlying175,Tryz.runUnderlying175,Tryz.sizeOf175,Tryz.isAgg175,Tryz.zeroValue175,Tryz.underlying0,Tryz.runUnderlying0,Tryz.sizeOf0,Tryz.isAgg0,Tryz.zeroValue0,Tryz.underlying3,Tryz.runUnderlying3,Tryz.sizeOf3,Tryz.isAgg3,Tryz.zeroValue3,Tryz.underlying4,Tryz.runUnderlying4,Tryz.sizeOf4,Tryz.isAgg4,Tryz.zeroValue4,Tryz.underlying9,Tryz.runUnderlying9,Tryz.sizeOf9,Tryz.isAgg9,Tryz.zeroValue9,Tryz.underlying20,Tryz.runUnderlying20,Tryz.sizeOf20,Tryz.isAgg20,Tryz.zeroValue20,Tryz.underlying21,Tryz.runUnderlying21,Tryz.sizeOf21,Tryz.isAgg21,Tryz.zeroValue21,(by kernel_rfl),(by kernel_rfl)⟩
end Go.Proofs
namespace Go.Proofs.Tryz
open Go Go.Conc Go.ConcN Go.ConcM Go.RowKit Go.Conc.Lib Go.ConcR.Gen
theorem UG:(Tryz.f105.name== "runtime.NumGoroutine")=false:=by kernel_rfl
theorem N8:(Tryz.f106.name== "runtime.NumGoroutine")=false:=by kernel_rfl
theorem Mf:(Tryz.f128.name== "runtime.NumGoroutine")=false:=by kernel_rfl
theorem vZ:(Tryz.f130.name== "runtime.NumGoroutine")=false:=by kernel_rfl
theorem XC:(Tryz.f67.name== "runtime.NumGoroutine")=false:=by kernel_rfl
theorem Jd:(Tryz.f68.name== "runtime.NumGoroutine")=false:=by kernel_rfl
theorem kG:(Tryz.f127.name== "runtime.NumGoroutine")=false:=by kernel_rfl
theorem kH:Tryz.f127.body.isNone=true:=by kernel_rfl
theorem kJ:Extern.findNext Tryz.f127=none:=by kernel_rfl
theorem kK:Extern.find Tryz.f127=some (Extern.Atomic.casT (.int .i32)):=by kernel_rfl
theorem vH:(Tryz.f129.name== "runtime.NumGoroutine")=false:=by kernel_rfl
theorem vJ:Tryz.f129.body.isNone=true:=by kernel_rfl
theorem vK:Extern.findNext Tryz.f129=none:=by kernel_rfl
theorem vL:Extern.find Tryz.f129=some (Extern.Atomic.update (Op.intArith .add) .i32 true):=by kernel_rfl
theorem kL:(Tryz.f136.name== "runtime.NumGoroutine")=false:=by kernel_rfl
theorem kM:Tryz.f136.body.isNone=true:=by kernel_rfl
theorem kN:Extern.findNext Tryz.f136=none:=by kernel_rfl
theorem kP:Extern.find Tryz.f136=some (Extern.Sync.canSpin):=by kernel_rfl
theorem Bi:(Tryz.f137.name== "runtime.NumGoroutine")=false:=by kernel_rfl
theorem Bj:Tryz.f137.body.isNone=true:=by kernel_rfl
theorem Bl:Extern.findNext Tryz.f137=none:=by kernel_rfl
theorem Bn:Extern.find Tryz.f137=some (λ_=>pure (.tuple #[])):=by kernel_rfl
theorem wY:(Tryz.f139.name== "runtime.NumGoroutine")=false:=by kernel_rfl
theorem wZ:Tryz.f139.body.isNone=true:=by kernel_rfl
theorem xe:Extern.findNext Tryz.f139=none:=by kernel_rfl
theorem xg:Extern.find Tryz.f139=some (Extern.OsHooks.nano):=by kernel_rfl
theorem xX:(Tryz.f140.name== "runtime.NumGoroutine")=false:=by kernel_rfl
theorem xY:Tryz.f140.body.isNone=true:=by kernel_rfl
theorem xZ:Extern.findNext Tryz.f140=none:=by kernel_rfl
theorem x8:Extern.find Tryz.f140=some (Extern.Sync.semacquire):=by kernel_rfl
theorem Gz:(Tryz.f142.name== "runtime.NumGoroutine")=false:=by kernel_rfl
theorem x9:Tryz.f142.body.isNone=true:=by kernel_rfl
theorem GA:Extern.findNext Tryz.f142=none:=by kernel_rfl
theorem GD:Extern.find Tryz.f142=some (Extern.Sync.semrelease):=by kernel_rfl
theorem xh:Tryz.f139.norace=true:=by kernel_rfl
theorem zm:Tryz.prog.underlying 178=some (.pointer 95):=by kernel_rfl
theorem Em:(Tryz.prog.info? 95).map (λi=>decide (i.size=0))=some false:=by kernel_rfl
theorem Q7:(Tryz.prog.funcs[(base 106).fn]?).any (·.norace)=true:=by kernel_rfl
theorem jV:(Tryz.prog.funcs[(base 128).fn]?).any (·.norace)=true:=by kernel_rfl
section
variable {main:Bool} {b:Frame} {a:Act} {kk:List Item} {cs:List Frame} {w:World} {ops:Array Oper} {i:Nat} {rest:List Nat} {o:Oper}
theorem jk {x:Operand} (ho:ops[i]?=some o) (hw:Region.wanted o (yielded ops a.tmps)=true) (hk:b.kind≠ .early) (hop:o.op= .load 21 x)
 {ad:Addr} {v:Int} (hx:a.eval x= .pointer (some ad)) (hc:w.cell? ad=some (.int .i32 v)) (hq:(Tryz.prog.funcs[b.fn]?).any (·.norace)=true):
 stepG Tryz.prog main (G (b.at a (.inRegion ops (i::rest)::kk)) cs) w= .go (G (b.at (a.put o.dst (.int .i32 v)) (.inRegion ops rest::kk)) cs) w #[]:=by
 have hr:(execOp a.eval o).run Tryz.prog w= .ok (.value (.int .i32 v)) w:=by
  unfold execOp;simp only [hop,hx];simp [go_sem,hc]
 have he:(execOp a.eval o).events Tryz.prog w #[]= #[⟨.cell ad,false,false⟩]:=by
  unfold execOp;simp only [hop,hx];simp [go_sem,hc]
 rw [stepG_value ho hw hk hr];unfold listed;rw [he,seen_def,hq];simp [seenStep]
end
def dM:Code->Option Code
 | .loop c=>some c
 | .seq x y=>match dM x with |some c=>some c|none=>dM y
 | .block _ c=>dM c
 |_=>none
def dJ:Code->Option Code
 | .seq (.block _ _) r=>some r
 | .seq _ y=>dJ y
 |_=>none
def eF (n:Nat):Code->Option (Array Oper)
 | .region m ops _=>if m=n then some ops else none
 |_=>none
def dV (n:Nat):Code->Option (Array Oper×Code)
 | .seq x y=>match eF n x with
   |some ops=>some (ops,y)
   |none=>match dV n x with
    |some c=>some c
    |none=>dV n y
 | .cond _ x y=>match dV n x with
     |some c=>some c
     |none=>dV n y
 | .block _ c=>dV n c
 | .loop c=>dV n c
 | .region m ops _=>if m=n then some (ops,.skip) else none
 |_=>none
def dP (n:Nat):Code->Option Code
 | .seq x y=>match eF n x with
   |some _=>some (.seq x y)
   |none=>match dP n x with
    |some c=>some c
    |none=>dP n y
 | .cond _ x y=>match dP n x with
     |some c=>some c
     |none=>dP n y
 | .block _ c=>dP n c
 | .loop c=>dP n c
 |_=>none
noncomputable def dX:Code:=Tryz.f128.body.getD .skip
noncomputable def LL:Code:=(dM dX).getD .skip
noncomputable def REST:Code:=(dJ dX).getD .skip
noncomputable def jI (n:Nat):Array Oper:=((dV n LL).getD (#[],.skip)).1
noncomputable def kS (n:Nat):Code:=(dP n LL).getD .skip
noncomputable def jL (n:Nat):Code:=((dV n LL).getD (#[],.skip)).2
end Go.Proofs.Tryz
