/- Part 8. -/
import Derived.Test.YtmjjkglekbfbjaaGreatProg
import Derived.Test.YtmjjkglekbfbjaaGreatH06
set_option maxRecDepth 100000
set_option maxHeartbeats 0
set_option linter.all false
section
namespace Go.Proofs
abbrev Tryz.link:Go.Conc.Lib.WgLink:={ add:=25,done:=27,wait:=32,relMerge:=52,disable:=53,enable:=54,inBubble:=55,associate:=56,fatal:=57,uOr:=58,uAdd:=59,raceRead:=60,uLoad:=61,uStore:=62,disassociate:=63,semrelease:=64,acquire:=69,isAssociated:=70,uCas:=71,raceWrite:=72,semacquire:=73,orU64:=88,addU64:=89,loadU64:=90,storeU64:=91,casU64:=99,tWgP:=110,tUP:=112,tAssoc:=113,tWg:=76,tAU:=74,tU64:=72,tUint:=83,tU32:=65,tPU32:=117,tPAU:=144,tPU64:=146,tNoCopy:=64,tANoCopy:=70,tAlign64:=71 }
def Tryz.mK:Go.Conc.Lib.WgLib Tryz.prog Tryz.link:=
 ⟨Tryz.func25,Tryz.func27,Tryz.func32,Tryz.func52,Tryz.func53,Tryz.func54,Tryz.func55,Tryz.func56,Tryz.func57,Tryz.func58,Tryz.func59,Tryz.func60,Tryz.func61,Tryz.func62,Tryz.func63,Tryz.func64,Tryz.func69,Tryz.func70,Tryz.func71,Tryz.func72,Tryz.func73,Tryz.func88,Tryz.func89,Tryz.func90,Tryz.func91,Tryz.func99,Tryz.underlying110,Tryz.runUnderlying110,Tryz.sizeOf110,Tryz.isAgg110,Tryz.zeroValue110,Tryz.underlying112,Tryz.runUnderlying112,Tryz.sizeOf112,Tryz.isAgg112,Tryz.zeroValue112,Tryz.underlying113,Tryz.runUnderlying113,Tryz.sizeOf113,Tryz.isAgg113,Tryz.zeroValue113,Tryz.underlying76,Tryz.runUnderlying76,Tryz.sizeOf76,Tryz.isAgg76,Tryz.zeroValue76,Tryz.underlying74,Tryz.runUnderlying74,Tryz.sizeOf74,Tryz.isAgg74,Tryz.zeroValue74,Tryz.underlying72,Tryz.runUnderlying72,Tryz.sizeOf72,Tryz.isAgg72,Tryz.zeroValue72,Tryz.underlying83,Tryz.runUnderlying83,Tryz.sizeOf83,Tryz.isAgg83,Tryz.zeroValue83,Tryz.underlying65,Tryz.runUnderlying65,Tryz.sizeOf65,Tryz.isAgg65,Tryz.zeroValue65,Tryz.underlying117,Tryz.runUnderlying117,Tryz.sizeOf117,Tryz.isAgg117,Tryz.zeroValue117,Tryz.underlying144,Tryz.runUnderlying144,Tryz.sizeOf144,Tryz.isAgg144,Tryz.zeroValue144,Tryz.underlying146,Tryz.runUnderlying146,Tryz.sizeOf146,Tryz.isAgg146,Tryz.zeroValue146,Tryz.underlying0,Tryz.runUnderlying0,Tryz.sizeOf0,Tryz.isAgg0,Tryz.zeroValue0,Tryz.underlying3,Tryz.runUnderlying3,Tryz.sizeOf3,Tryz.isAgg3,Tryz.zeroValue3,Tryz.underlying4,Tryz.runUnderlying4,Tryz.sizeOf4,Tryz.isAgg4,Tryz.zeroValue4,Tryz.underlying9,Tryz.runUnderlying9,Tryz.sizeOf9,Tryz.isAgg9,Tryz.zeroValue9,Tryz.underlying20,Tryz.runUnderlying20,Tryz.sizeOf20,Tryz.isAgg20,Tryz.zeroValue20,Tryz.underlying21,Tryz.runUnderlying21,Tryz.sizeOf21,Tryz.isAgg21,Tryz.zeroValue21,(by kernel_rfl),(by kernel_rfl)⟩
end Go.Proofs
namespace Go.Proofs.Tryz
open Go Go.Conc Go.ConcN Go.ConcM Go.RowKit Go.Conc.Lib Go.ConcR.Gen
def Rf:(Tryz.f67.name== "runtime.NumGoroutine")=false:=by kernel_rfl
def Ku:(Tryz.f68.name== "runtime.NumGoroutine")=false:=by kernel_rfl
def IK:(Tryz.f96.name== "runtime.NumGoroutine")=false:=by kernel_rfl
def qM:(Tryz.f98.name== "runtime.NumGoroutine")=false:=by kernel_rfl
def Vd:(Tryz.f30.name== "runtime.NumGoroutine")=false:=by kernel_rfl
def EM:(Tryz.f31.name== "runtime.NumGoroutine")=false:=by kernel_rfl
def yE:(Tryz.f95.name== "runtime.NumGoroutine")=false:=by kernel_rfl
def yF:Tryz.f95.body.isNone=true:=by kernel_rfl
def yG:Extern.findNext Tryz.f95=none:=by kernel_rfl
def yH:Extern.find Tryz.f95=some (Extern.Atomic.casT (.int .i32)):=by kernel_rfl
def yI:(Tryz.f97.name== "runtime.NumGoroutine")=false:=by kernel_rfl
def yJ:Tryz.f97.body.isNone=true:=by kernel_rfl
def yK:Extern.findNext Tryz.f97=none:=by kernel_rfl
def yL:Extern.find Tryz.f97=some (Extern.Atomic.update (Op.intArith .add) .i32 true):=by kernel_rfl
def uI:(Tryz.f111.name== "runtime.NumGoroutine")=false:=by kernel_rfl
def uJ:Tryz.f111.body.isNone=true:=by kernel_rfl
def uK:Extern.findNext Tryz.f111=none:=by kernel_rfl
def uL:Extern.find Tryz.f111=some (Extern.Sync.canSpin):=by kernel_rfl
def Kv:(Tryz.f112.name== "runtime.NumGoroutine")=false:=by kernel_rfl
def Kw:Tryz.f112.body.isNone=true:=by kernel_rfl
def Ky:Extern.findNext Tryz.f112=none:=by kernel_rfl
def Kz:Extern.find Tryz.f112=some (λ_=>pure (.tuple #[])):=by kernel_rfl
def IL:(Tryz.f114.name== "runtime.NumGoroutine")=false:=by kernel_rfl
def IM:Tryz.f114.body.isNone=true:=by kernel_rfl
def IP:Extern.findNext Tryz.f114=none:=by kernel_rfl
def IQ:Extern.find Tryz.f114=some (Extern.OsHooks.nano):=by kernel_rfl
def CG:(Tryz.f115.name== "runtime.NumGoroutine")=false:=by kernel_rfl
def CJ:Tryz.f115.body.isNone=true:=by kernel_rfl
def CK:Extern.findNext Tryz.f115=none:=by kernel_rfl
def CL:Extern.find Tryz.f115=some (Extern.Sync.semacquire):=by kernel_rfl
def KA:(Tryz.f117.name== "runtime.NumGoroutine")=false:=by kernel_rfl
def CO:Tryz.f117.body.isNone=true:=by kernel_rfl
def KC:Extern.findNext Tryz.f117=none:=by kernel_rfl
def KD:Extern.find Tryz.f117=some (Extern.Sync.semrelease):=by kernel_rfl
def IU:Tryz.f114.norace=true:=by kernel_rfl
def KE:Tryz.prog.underlying 153=some (.pointer 67):=by kernel_rfl
def Rh:(Tryz.prog.info? 67).map (λi=>decide (i.size=0))=some false:=by kernel_rfl
def OG:(Tryz.prog.funcs[(base 68).fn]?).any (·.norace)=true:=by kernel_rfl
def pR:(Tryz.prog.funcs[(base 96).fn]?).any (·.norace)=true:=by kernel_rfl
section
variable {main:Bool} {b:Frame} {a:Act} {kk:List Item} {cs:List Frame} {w:World} {ops:Array Oper} {i:Nat} {rest:List Nat} {o:Oper}
def lI{x:Operand}(ho:ops[i]?=some o)(hw:Region.wanted o (yielded ops a.tmps)=true)(hk:b.kind≠ .early)(hop:o.op=.load 21 x)
 {ad:Addr} {v:Int} (hx:a.eval x=.pointer (some ad)) (hc:w.cell? ad=some (.int .i32 v)) (hq:(Tryz.prog.funcs[b.fn]?).any (·.norace)=true):
 stepG Tryz.prog main (G (b.at a (.inRegion ops (i::rest)::kk)) cs) w=.go (G (b.at (a.put o.dst (.int .i32 v)) (.inRegion ops rest::kk)) cs) w #[]:=by
 have hr:(execOp a.eval o).run Tryz.prog w=.ok (.value (.int .i32 v)) w:=by unfold execOp;simp only[hop,hx];simp[go_sem,hc]
 have he:(execOp a.eval o).events Tryz.prog w #[]= #[⟨.cell ad,false,false⟩]:=by unfold execOp;simp only[hop,hx];simp[go_sem,hc]
 rw[stepG_value ho hw hk hr];unfold listed;rw[he,seen_def,hq];simp[seenStep]
end
def fH:Code->Option Code
 | .loop c=>some c
 | .seq x y=>match fH x with |some c=>some c|none=>fH y
 | .block _ c=>fH c
 |_=>none
def gq:Code->Option Code
 | .seq (.block _ _) r=>some r
 | .seq _ y=>gq y
 |_=>none
def jF(n:Nat):Code->Option (Array Oper)
 | .region m ops _=>if m=n then some ops else none
 |_=>none
def gG(n:Nat):Code->Option (Array Oper×Code)
 | .seq x y=>match jF n x with
   |some ops=>some (ops,y)
   |none=>match gG n x with
    |some c=>some c
    |none=>gG n y
 | .cond _ x y=>match gG n x with
     |some c=>some c
     |none=>gG n y
 | .block _ c=>gG n c
 | .loop c=>gG n c
 | .region m ops _=>if m=n then some (ops,.skip)else none
 |_=>none
def fE(n:Nat):Code->Option Code
 | .seq x y=>match jF n x with
   |some _=>some (.seq x y)
   |none=>match fE n x with
    |some c=>some c
    |none=>fE n y
 | .cond _ x y=>match fE n x with
     |some c=>some c
     |none=>fE n y
 | .block _ c=>fE n c
 | .loop c=>fE n c
 |_=>none
noncomputable def kG:Code:=Tryz.f96.body.getD .skip
noncomputable def LL:Code:=(fH kG).getD .skip
noncomputable def REST:Code:=(gq kG).getD .skip
noncomputable def KF(n:Nat):Array Oper:=((gG n LL).getD (#[],.skip)).1
noncomputable def MC(n:Nat):Code:=(fE n LL).getD .skip
noncomputable def ME(n:Nat):Code:=((gG n LL).getD (#[],.skip)).2
end Go.Proofs.Tryz
end
section
namespace Go.Proofs.Tryz
open Go Go.Conc Go.ConcN Go.ConcM Go.RowKit Go.Conc.Lib Go.ConcR.Gen cS
open Go.ConcR (KK wgBlock WgAt stA smA rd wr mk AtMkS)
section
variable {Mu Wg:Nat} {ty:TypeId} {N:Nat->Nat} {J:Nat->Nat->(Nat->Prop)->World->Prop} {ro:Nat->Prop} {Anch:(Nat->Prop)->Goroutine->World->Prop}
variable {own:Nat->Prop} {W0:World} {i k c:Nat} {b₁:Frame} {qaf:Act} {ao1:Array Oper} {i₁:Nat} {al7:List Nat} {k₁:List Item} {cs₁:List Frame}
abbrev cfg(Mu Wg:Nat)(ty:TypeId)(N:Nat->Nat)(J:Nat->Nat->(Nat->Prop)->World->Prop)(ro:Nat->Prop)(Anch:(Nat->Prop)->Goroutine->World->Prop):Bq LT MS:=nR Mu Wg 69 ty N J ro Anch
def WN(Mu Wg:Nat)(ty:TypeId)(N:Nat->Nat)(J:Nat->Nat->(Nat->Prop)->World->Prop)(ro:Nat->Prop)(Anch:(Nat->Prop)->Goroutine->World->Prop)(own:Nat->Prop)(W0:World)(i k c:Nat)(g:Goroutine):Prop:=
 ∀(o:Nat)(Gu:Nat->Prop)(W1 w:World),dM ((cfg Mu Wg ty N J ro Anch).Zw k) own W0 W1->(∀b,Gu b->¬own b)->Jk J k c o Gu W1->KM 69 Mu ((cfg Mu Wg ty N J ro Anch).Zw k) (λb=>own b∨Gu b) W1 w->
  Gw Tryz.prog (i==0) ((cfg Mu Wg ty N J ro Anch).Zw k) (At Tryz.prog (cfg Mu Wg ty N J ro Anch).sys i (.bd k ⟨lk .ur,c,o⟩)) (λb=>own b∨Gu b) g w
def gI{tM:TypeId}{P:Program}{main:Bool}{Z:fO}{S:(Nat->Prop)->Goroutine->World->Prop}{n:Nat}{g:Goroutine}{w:World}(hz:Z.sy Mu)(hF:KM tM Mu Z own W0 w)(h:∀w,KM tM Mu Z own W0 w->S own g w):
 Goes P main (dM Z own) Go.ConcR.DC0 (λg W=>Gw P main Z S own g W) n g w:=cz λ_ h1=>.stop λ_ h2=>h _ (dB hz (dB hz hF h1) h2)
end
def Yn:Nat->(List Value->Prop)->Prop
 |0,P=>P []
 |n+1,P=>∀x,Yn n λl=>P (x::l)
def rr:∀{n:Nat}{P:List Value->Prop}{l:List Value},l.length=n->Yn n P->P l
 |0,_,[],_,h=>h
 |_+1,_,x::l,e,h=>rr (l:=l) (Nat.succ.inj (by simpa using e)) (h x)
def ng{n:Nat}{P:Array Value->Prop}{t:Array Value}(ht:t.size=n)(h:Yn n λl=>P l.toArray):P t:=by obtain⟨l⟩:=t;exact rr (P:= λl=>P l.toArray) ht h
structure LC where
 Mu:Nat
 Wg:Nat
 ty:TypeId
 N:Nat->Nat
 J:Nat->Nat->(Nat->Prop)->World->Prop
 ro:Nat->Prop
 Anch:(Nat->Prop)->Goroutine->World->Prop
 own:Nat->Prop
 W0:World
 i:Nat
 k:Nat
 c:Nat
 b:Frame
 a:Act
 O:Array Oper
 j:Nat
 r:List Nat
 q:List Item
 cs:List Frame
 hne:Mu≠Wg
 hi:i≠0
 hb:Beside (cfg Mu Wg ty N J ro Anch) ((cfg Mu Wg ty N J ro Anch).Zw k) own
 hT:WN Mu Wg ty N J ro Anch own W0 i k c (G (b.at (a.put ((O[j]?).bind (·.dst)) (.tuple #[])) (.inRegion O r::q)) cs)
namespace LC
variable (C:LC)
abbrev cf:Bq LT MS:=cfg C.Mu C.Wg C.ty C.N C.J C.ro C.Anch
abbrev Z:fO:=C.cf.Zw C.k
abbrev km(w:World):Prop:=KM 69 C.Mu C.Z C.own C.W0 w
abbrev g(t:Array Value)(kk:List Item):Goroutine:=G ((base 96).at ⟨t,[]⟩ kk) (C.b.at C.a (.inRegion C.O (C.j::C.r)::C.q)::C.cs)
def fr(t:Array Value)(ws sv aw:Bool)(it:Nat):Prop:=∃GX:Int,t.size=139∧ws=decide (GX≠0)∧t.getD 0 undef=.pointer (some ⟨C.Mu,0,none⟩)∧t.getD 2 undef=.int .i64 GX∧t.getD 3 undef=.bool sv∧t.getD 4 undef=.bool aw∧t.getD 5 undef=.int .i64 it
end LC
inductive fg(C:LC):jE (FT LT)
 |mk {old it n:Nat} {aw sv ws:Bool} {t:Array Value} {w:World} (hF:C.km w) (hf:C.fr t ws sv aw it) (h6:t.getD 6 undef=.int .i32 (old:Nat)):fg C C.i (.bd C.k ⟨⟨.hd,old,0,aw,sv,it,ws⟩,C.c,n⟩) C.own (C.g t [.code LL,.inLoop LL,.inBlock 0,.code REST]) w
namespace LC
variable (C:LC)
abbrev X:jE (FT LT):=Eh Tryz.prog C.cf.sys λi' T dD g w=>fg C i' T dD g w∨At Tryz.prog C.cf.sys i' T dD g w
abbrev gw(l:LK)(n:Nat)(t:Array Value)(kk:List Item)(w:World):Prop:=Gw Tryz.prog false C.Z (C.X C.i (.bd C.k ⟨l,C.c,n⟩)) C.own (C.g t kk) w
abbrev law(l:LK)(n:Nat)(t:Array Value)(kk:List Item)(w:World):Prop:=xI Tryz.prog C.cf.sys C.X C.i (.bd C.k ⟨l,C.c,n⟩) C.own (C.g t kk) w
theorem e0:(C.i==0)=false:=by simpa using C.hi
theorem hz:C.Z.sy C.Mu:=.inl (.inl rfl)
end LC
noncomputable def KL(n:Nat)(r:List Nat):List Item:=[.inRegion (KF n) r,.code (ME n),.inBlock 1,.inLoop LL,.inBlock 0,.code REST]
noncomputable def KR:List Item:=[.inRegion ((gG 40 REST).getD (#[],.skip)).1 [0],.code ((gG 40 REST).getD (#[],.skip)).2]
end Go.Proofs.Tryz
end
