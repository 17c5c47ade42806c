/- Part 8. -/
import Derived.Test.YtnemnkmojiljmaaGreatProg
import Derived.Test.YtnemnkmojiljmaaGreatG06
set_option maxRecDepth 100000
set_option maxHeartbeats 0
set_option linter.all false
section
namespace Go.Proofs
abbrev Tryz.link:Go.Conc.Lib.WgLink:={ add:=62,done:=64,wait:=69,relMerge:=92,disable:=93,enable:=94,inBubble:=95,associate:=96,fatal:=97,uOr:=98,uAdd:=99,raceRead:=100,uLoad:=101,uStore:=102,disassociate:=103,semrelease:=104,acquire:=107,isAssociated:=108,uCas:=109,raceWrite:=110,semacquire:=111,orU64:=123,addU64:=124,loadU64:=125,storeU64:=126,casU64:=131,tWgP:=145,tUP:=147,tAssoc:=148,tWg:=104,tAU:=102,tU64:=100,tUint:=111,tU32:=93,tPU32:=152,tPAU:=173,tPU64:=175,tNoCopy:=92,tANoCopy:=98,tAlign64:=99 }
theorem Tryz.jG:Go.Conc.Lib.WgLib Tryz.prog Tryz.link:=
 ⟨Tryz.func62,Tryz.func64,Tryz.func69,Tryz.func92,Tryz.func93,Tryz.func94,Tryz.func95,Tryz.func96,Tryz.func97,Tryz.func98,Tryz.func99,Tryz.func100,Tryz.func101,Tryz.func102,Tryz.func103,Tryz.func104,Tryz.func107,Tryz.func108,Tryz.func109,Tryz.func110,Tryz.func111,Tryz.func123,Tryz.func124,Tryz.func125,Tryz.func126,Tryz.func131,Tryz.underlying145,Tryz.runUnderlying145,Tryz.sizeOf145,Tryz.isAgg145,Tryz.zeroValue145,Tryz.underlying147,Tryz.runUnderlying147,Tryz.sizeOf147,Tryz.isAgg147,Tryz.zeroValue147,Tryz.underlying148,Tryz.runUnderlying148,Tryz.sizeOf148,Tryz.isAgg148,Tryz.zeroValue148,Tryz.underlying104,Tryz.runUnderlying104,Tryz.sizeOf104,Tryz.isAgg104,Tryz.zeroValue104,Tryz.underlying102,Tryz.runUnderlying102,Tryz.sizeOf102,Tryz.isAgg102,Tryz.zeroValue102,Tryz.underlying100,Tryz.runUnderlying100,Tryz.sizeOf100,Tryz.isAgg100,Tryz.zeroValue100,Tryz.underlying111,Tryz.runUnderlying111,Tryz.sizeOf111,Tryz.isAgg111,Tryz.zeroValue111,Tryz.underlying93,Tryz.runUnderlying93,Tryz.sizeOf93,Tryz.isAgg93,Tryz.zeroValue93,Tryz.underlying152,Tryz.runUnderlying152,Tryz.sizeOf152,Tryz.isAgg152,Tryz.zeroValue152,Tryz.underlying173,Tryz.runUnderlying173,Tryz.sizeOf173,Tryz.isAgg173,Tryz.zeroValue173,Tryz.underlying175,Tryz.runUnderlying175,Tryz.sizeOf175,Tryz.isAgg175,Tryz.zeroValue175,Tryz.underlying0,Tryz.runUnderlying0,Tryz.sizeOf0,Tryz.isAgg0,Tryz.zeroValue0,Tryz.underlying3,Tryz.runUnderlying3,Tryz.sizeOf3,Tryz.isAgg3,Tryz.zeroValue3,Tryz.underlying4,Tryz.runUnderlying4,Tryz.sizeOf4,Tryz.isAgg4,Tryz.zeroValue4,Tryz.underlying9,Tryz.runUnderlying9,Tryz.sizeOf9,Tryz.isAgg9,Tryz.zeroValue9,Tryz.underlying20,Tryz.runUnderlying20,Tryz.sizeOf20,Tryz.isAgg20,Tryz.zeroValue20,Tryz.underlying21,Tryz.runUnderlying21,Tryz.sizeOf21,Tryz.isAgg21,Tryz.zeroValue21,(by kernel_rfl),(by kernel_rfl)⟩
end Go.Proofs
namespace Go.Proofs.Tryz
open Go Go.Conc Go.ConcN Go.ConcM Go.RowKit Go.Conc.Lib Go.ConcR.Gen
theorem Vk:(Tryz.f105.name== "runtime.NumGoroutine")=false:=by kernel_rfl
theorem OB:(Tryz.f106.name== "runtime.NumGoroutine")=false:=by kernel_rfl
theorem ML:(Tryz.f128.name== "runtime.NumGoroutine")=false:=by kernel_rfl
theorem wO:(Tryz.f130.name== "runtime.NumGoroutine")=false:=by kernel_rfl
theorem YA:(Tryz.f67.name== "runtime.NumGoroutine")=false:=by kernel_rfl
theorem JG:(Tryz.f68.name== "runtime.NumGoroutine")=false:=by kernel_rfl
theorem kM:(Tryz.f127.name== "runtime.NumGoroutine")=false:=by kernel_rfl
theorem kN:Tryz.f127.body.isNone=true:=by kernel_rfl
theorem kP:Extern.findNext Tryz.f127=none:=by kernel_rfl
theorem kQ:Extern.find Tryz.f127=some (Extern.Atomic.casT (.int .i32)):=by kernel_rfl
theorem vY:(Tryz.f129.name== "runtime.NumGoroutine")=false:=by kernel_rfl
theorem vZ:Tryz.f129.body.isNone=true:=by kernel_rfl
theorem wh:Extern.findNext Tryz.f129=none:=by kernel_rfl
theorem wm:Extern.find Tryz.f129=some (Extern.Atomic.update (Op.intArith .add) .i32 true):=by kernel_rfl
theorem kR:(Tryz.f136.name== "runtime.NumGoroutine")=false:=by kernel_rfl
theorem kS:Tryz.f136.body.isNone=true:=by kernel_rfl
theorem kT:Extern.findNext Tryz.f136=none:=by kernel_rfl
theorem kU:Extern.find Tryz.f136=some (Extern.Sync.canSpin):=by kernel_rfl
theorem BL:(Tryz.f137.name== "runtime.NumGoroutine")=false:=by kernel_rfl
theorem BM:Tryz.f137.body.isNone=true:=by kernel_rfl
theorem BN:Extern.findNext Tryz.f137=none:=by kernel_rfl
theorem BO:Extern.find Tryz.f137=some (λ_=>pure (.tuple #[])):=by kernel_rfl
theorem xH:(Tryz.f139.name== "runtime.NumGoroutine")=false:=by kernel_rfl
theorem xI:Tryz.f139.body.isNone=true:=by kernel_rfl
theorem xJ:Extern.findNext Tryz.f139=none:=by kernel_rfl
theorem xK:Extern.find Tryz.f139=some (Extern.OsHooks.nano):=by kernel_rfl
theorem yx:(Tryz.f140.name== "runtime.NumGoroutine")=false:=by kernel_rfl
theorem yA:Tryz.f140.body.isNone=true:=by kernel_rfl
theorem yB:Extern.findNext Tryz.f140=none:=by kernel_rfl
theorem yC:Extern.find Tryz.f140=some (Extern.Sync.semacquire):=by kernel_rfl
theorem GZ:(Tryz.f142.name== "runtime.NumGoroutine")=false:=by kernel_rfl
theorem yD:Tryz.f142.body.isNone=true:=by kernel_rfl
theorem G5:Extern.findNext Tryz.f142=none:=by kernel_rfl
theorem G6:Extern.find Tryz.f142=some (Extern.Sync.semrelease):=by kernel_rfl
theorem xL:Tryz.f139.norace=true:=by kernel_rfl
theorem zI:Tryz.prog.underlying 178=some (.pointer 95):=by kernel_rfl
theorem ER:(Tryz.prog.info? 95).map (λi=>decide (i.size=0))=some false:=by kernel_rfl
theorem R5:(Tryz.prog.funcs[(base 106).fn]?).any (·.norace)=true:=by kernel_rfl
theorem kC:(Tryz.prog.funcs[(base 128).fn]?).any (·.norace)=true:=by kernel_rfl
section
variable {main:Bool} {b:Frame} {a:Act} {kk:List Item} {cs:List Frame} {w:World} {ops:Array Oper} {i:Nat} {rest:List Nat} {o:Oper}
theorem jv {x:Operand} (ho:ops[i]?=some o) (hw:Region.wanted o (yielded ops a.tmps)=true) (hk:b.kind≠ .early) (hop:o.op= .load 21 x)
 {ad:Addr} {v:Int} (hx:a.eval x= .pointer (some ad)) (hc:w.cell? ad=some (.int .i32 v)) (hq:(Tryz.prog.funcs[b.fn]?).any (·.norace)=true):
 stepG Tryz.prog main (G (b.at a (.inRegion ops (i::rest)::kk)) cs) w= .go (G (b.at (a.put o.dst (.int .i32 v)) (.inRegion ops rest::kk)) cs) w #[]:=by
 have hr:(execOp a.eval o).run Tryz.prog w= .ok (.value (.int .i32 v)) w:=by
  unfold execOp;simp only [hop,hx];simp [go_sem,hc]
 have he:(execOp a.eval o).events Tryz.prog w #[]= #[⟨.cell ad,false,false⟩]:=by
  unfold execOp;simp only [hop,hx];simp [go_sem,hc]
 rw [stepG_value ho hw hk hr];unfold listed;rw [he,seen_def,hq];simp [seenStep]
end
def dL:Code->Option Code
 | .loop c=>some c
 | .seq x y=>match dL x with |some c=>some c|none=>dL y
 | .block _ c=>dL c
 |_=>none
def dI:Code->Option Code
 | .seq (.block _ _) r=>some r
 | .seq _ y=>dI y
 |_=>none
def eO (n:Nat):Code->Option (Array Oper)
 | .region m ops _=>if m=n then some ops else none
 |_=>none
def dS (n:Nat):Code->Option (Array Oper×Code)
 | .seq x y=>match eO n x with
   |some ops=>some (ops,y)
   |none=>match dS n x with
    |some c=>some c
    |none=>dS n y
 | .cond _ x y=>match dS n x with
     |some c=>some c
     |none=>dS n y
 | .block _ c=>dS n c
 | .loop c=>dS n c
 | .region m ops _=>if m=n then some (ops,.skip) else none
 |_=>none
def dN (n:Nat):Code->Option Code
 | .seq x y=>match eO n x with
   |some _=>some (.seq x y)
   |none=>match dN n x with
    |some c=>some c
    |none=>dN n y
 | .cond _ x y=>match dN n x with
     |some c=>some c
     |none=>dN n y
 | .block _ c=>dN n c
 | .loop c=>dN n c
 |_=>none
noncomputable def dW:Code:=Tryz.f128.body.getD .skip
noncomputable def LL:Code:=(dL dW).getD .skip
noncomputable def REST:Code:=(dI dW).getD .skip
noncomputable def jQ (n:Nat):Array Oper:=((dS n LL).getD (#[],.skip)).1
noncomputable def kY (n:Nat):Code:=(dN n LL).getD .skip
noncomputable def jU (n:Nat):Code:=((dS n LL).getD (#[],.skip)).2
end Go.Proofs.Tryz
end
namespace Go.Proofs.Tryz
open Go Go.Conc Go.ConcN Go.ConcM Go.RowKit Go.Conc.Lib Go.ConcR.Gen Par
open Go.ConcR (KK wgBlock WgAt stA smA rd wr mk AtMkS)
section
section
variable {Mu Wg:Nat} {ty:TypeId} {N:Nat->Nat} {J:Nat->Nat->(Nat->Prop)->World->Prop} {ro:Nat->Prop} {Anch:(Nat->Prop)->Goroutine->World->Prop}
variable {own:Nat->Prop} {W0:World} {i k c:Nat} {b₁:Frame} {a₁:Act} {dO:Array Oper} {i₁:Nat} {dQ:List Nat} {k₁:List Item} {cs₁:List Frame}
abbrev cfg (Mu Wg:Nat) (ty:TypeId) (N:Nat->Nat) (J:Nat->Nat->(Nat->Prop)->World->Prop) (ro:Nat->Prop) (Anch:(Nat->Prop)->Goroutine->World->Prop):GJ LT MS:=uf Mu Wg 97 ty N J ro Anch
def kH (Mu Wg:Nat) (ty:TypeId) (N:Nat->Nat) (J:Nat->Nat->(Nat->Prop)->World->Prop) (ro:Nat->Prop) (Anch:(Nat->Prop)->Goroutine->World->Prop) (own:Nat->Prop) (W0:World) (i k c:Nat) (g:Goroutine):Prop:=
 ∀(o:Nat) (Gu:Nat->Prop) (W1 w:World),dZ ((cfg Mu Wg ty N J ro Anch).Zw k) own W0 W1->(∀b,Gu b->¬own b)->Jk J k c o Gu W1->KM 97 Mu ((cfg Mu Wg ty N J ro Anch).Zw k) (λb=>own b∨Gu b) W1 w->
  Gw Tryz.prog (i==0) ((cfg Mu Wg ty N J ro Anch).Zw k) (At Tryz.prog (cfg Mu Wg ty N J ro Anch).sys i (.bd k ⟨lk .ur,c,o⟩)) (λb=>own b∨Gu b) g w
variable (Mu Wg ty N J ro Anch own W0 i k c b₁ a₁ dO i₁ dQ k₁ cs₁) in
inductive HdX:mh (FT LT)
 |mk {old it n:Nat} {aw sv ws:Bool} {kG:Int} {j1 j7 j8 j9 j10 j11 j12 j13 nV nW mE mF mG mH mJ nZ oh oo mK mM mO mP mQ mR mU mV mW mX qh qi qj ql qm qo qx qy qz qA qB qC qD qE qF qG qH qI qJ qK qL qM qN qO qP qQ qR qU qV qW qX qY qZ rq ru ry rz rA rC rD rE rF rG wo wu wz vN rH rJ rM rO rP rQ rR rT rU rV tJ rW rX rY sD rZ r9 si sj iB iC iD jH iE iF iG iH iI iJ iK iL iM iN iO iP iQ iR iT iU iV iW iX iY iZ ja jc jd je jf jg jh ji jk jl jm jo jq jr:Value} {w:World} (hF:KM 97 Mu ((cfg Mu Wg ty N J ro Anch).Zw k) own W0 w) (hws:ws=decide (kG≠0)):HdX i (.bd k ⟨⟨.hd,old,0,aw,sv,it,ws⟩,c,n⟩) own
   (G ((base 128).at ⟨#[.pointer (some ⟨Mu,0,none⟩),j1,.int .i64 kG,.bool sv,.bool aw,.int .i64 (it:Nat),.int .i32 (old:Nat),j7,j8,j9,j10,j11,j12,j13,nV,nW,mE,mF,mG,mH,mJ,nZ,oh,oo,mK,mM,mO,mP,mQ,mR,mU,mV,mW,mX,qh,qi,qj,ql,qm,qo,qx,qy,qz,qA,qB,qC,qD,qE,qF,qG,qH,qI,qJ,qK,qL,qM,qN,qO,qP,qQ,qR,qU,qV,qW,qX,qY,qZ,rq,ru,ry,rz,rA,rC,rD,rE,rF,rG,wo,wu,wz,vN,rH,rJ,rM,rO,rP,rQ,rR,rT,rU,rV,tJ,rW,rX,rY,sD,rZ,r9,si,sj,iB,iC,iD,jH,iE,iF,iG,iH,iI,iJ,iK,iL,iM,iN,iO,iP,iQ,iR,iT,iU,iV,iW,iX,iY,iZ,ja,jc,jd,je,jf,jg,jh,ji,jk,jl,jm,jo,jq,jr],[]⟩ [.code LL,.inLoop LL,.inBlock 0,.code REST]) (b₁.at a₁ (.inRegion dO (i₁::dQ)::k₁)::cs₁)) w
variable (Mu Wg ty N J ro Anch own W0 i k c b₁ a₁ dO i₁ dQ k₁ cs₁) in
abbrev HX:mh (FT LT):=Jc Tryz.prog (cfg Mu Wg ty N J ro Anch).sys λi' T dK g w=>HdX Mu Wg ty N J ro Anch own W0 i k c b₁ a₁ dO i₁ dQ k₁ cs₁ i' T dK g w∨At Tryz.prog (cfg Mu Wg ty N J ro Anch).sys i' T dK g w
end
end
end Go.Proofs.Tryz
