/- Part 8. -/
import Derived.Test.YtjoahejacacljaaGreatProg
import Derived.Test.YtjoahejacacljaaGreatH06
set_option maxRecDepth 100000
set_option maxHeartbeats 0
set_option linter.all false
section
namespace Go.Proofs
abbrev Tryz.link:Go.Conc.Lib.WgLink:={ add:=39,done:=41,wait:=46,relMerge:=66,disable:=67,enable:=68,inBubble:=69,associate:=70,fatal:=71,uOr:=72,uAdd:=73,raceRead:=74,uLoad:=75,uStore:=76,disassociate:=77,semrelease:=78,acquire:=81,isAssociated:=82,uCas:=83,raceWrite:=84,semacquire:=85,orU64:=96,addU64:=97,loadU64:=98,storeU64:=99,casU64:=104,tWgP:=124,tUP:=126,tAssoc:=127,tWg:=90,tAU:=88,tU64:=86,tUint:=97,tU32:=79,tPU32:=131,tPAU:=151,tPU64:=153,tNoCopy:=78,tANoCopy:=84,tAlign64:=85 }
def Tryz.mK:Go.Conc.Lib.WgLib Tryz.prog Tryz.link:=
 ⟨Tryz.func39,Tryz.func41,Tryz.func46,Tryz.func66,Tryz.func67,Tryz.func68,Tryz.func69,Tryz.func70,Tryz.func71,Tryz.func72,Tryz.func73,Tryz.func74,Tryz.func75,Tryz.func76,Tryz.func77,Tryz.func78,Tryz.func81,Tryz.func82,Tryz.func83,Tryz.func84,Tryz.func85,Tryz.func96,Tryz.func97,Tryz.func98,Tryz.func99,Tryz.func104,Tryz.underlying124,Tryz.runUnderlying124,Tryz.sizeOf124,Tryz.isAgg124,Tryz.zeroValue124,Tryz.underlying126,Tryz.runUnderlying126,Tryz.sizeOf126,Tryz.isAgg126,Tryz.zeroValue126,Tryz.underlying127,Tryz.runUnderlying127,Tryz.sizeOf127,Tryz.isAgg127,Tryz.zeroValue127,Tryz.underlying90,Tryz.runUnderlying90,Tryz.sizeOf90,Tryz.isAgg90,Tryz.zeroValue90,Tryz.underlying88,Tryz.runUnderlying88,Tryz.sizeOf88,Tryz.isAgg88,Tryz.zeroValue88,Tryz.underlying86,Tryz.runUnderlying86,Tryz.sizeOf86,Tryz.isAgg86,Tryz.zeroValue86,Tryz.underlying97,Tryz.runUnderlying97,Tryz.sizeOf97,Tryz.isAgg97,Tryz.zeroValue97,Tryz.underlying79,Tryz.runUnderlying79,Tryz.sizeOf79,Tryz.isAgg79,Tryz.zeroValue79,Tryz.underlying131,Tryz.runUnderlying131,Tryz.sizeOf131,Tryz.isAgg131,Tryz.zeroValue131,Tryz.underlying151,Tryz.runUnderlying151,Tryz.sizeOf151,Tryz.isAgg151,Tryz.zeroValue151,Tryz.underlying153,Tryz.runUnderlying153,Tryz.sizeOf153,Tryz.isAgg153,Tryz.zeroValue153,Tryz.underlying0,Tryz.runUnderlying0,Tryz.sizeOf0,Tryz.isAgg0,Tryz.zeroValue0,Tryz.underlying3,Tryz.runUnderlying3,Tryz.sizeOf3,Tryz.isAgg3,Tryz.zeroValue3,Tryz.underlying4,Tryz.runUnderlying4,Tryz.sizeOf4,Tryz.isAgg4,Tryz.zeroValue4,Tryz.underlying9,Tryz.runUnderlying9,Tryz.sizeOf9,Tryz.isAgg9,Tryz.zeroValue9,Tryz.underlying20,Tryz.runUnderlying20,Tryz.sizeOf20,Tryz.isAgg20,Tryz.zeroValue20,Tryz.underlying21,Tryz.runUnderlying21,Tryz.sizeOf21,Tryz.isAgg21,Tryz.zeroValue21,(by kernel_rfl),(by kernel_rfl)⟩
end Go.Proofs
namespace Go.Proofs.Tryz
open Go Go.Conc Go.ConcN Go.ConcM Go.RowKit Go.Conc.Lib Go.ConcR.Gen
def Rf:(Tryz.f79.name== "runtime.NumGoroutine")=false:=by kernel_rfl
def Ku:(Tryz.f80.name== "runtime.NumGoroutine")=false:=by kernel_rfl
def IK:(Tryz.f101.name== "runtime.NumGoroutine")=false:=by kernel_rfl
def qM:(Tryz.f103.name== "runtime.NumGoroutine")=false:=by kernel_rfl
def Vd:(Tryz.f44.name== "runtime.NumGoroutine")=false:=by kernel_rfl
def EM:(Tryz.f45.name== "runtime.NumGoroutine")=false:=by kernel_rfl
def yE:(Tryz.f100.name== "runtime.NumGoroutine")=false:=by kernel_rfl
def yF:Tryz.f100.body.isNone=true:=by kernel_rfl
def yG:Extern.findNext Tryz.f100=none:=by kernel_rfl
def yH:Extern.find Tryz.f100=some (Extern.Atomic.casT (.int .i32)):=by kernel_rfl
def yI:(Tryz.f102.name== "runtime.NumGoroutine")=false:=by kernel_rfl
def yJ:Tryz.f102.body.isNone=true:=by kernel_rfl
def yK:Extern.findNext Tryz.f102=none:=by kernel_rfl
def yL:Extern.find Tryz.f102=some (Extern.Atomic.update (Op.intArith .add) .i32 true):=by kernel_rfl
def uI:(Tryz.f110.name== "runtime.NumGoroutine")=false:=by kernel_rfl
def uJ:Tryz.f110.body.isNone=true:=by kernel_rfl
def uK:Extern.findNext Tryz.f110=none:=by kernel_rfl
def uL:Extern.find Tryz.f110=some (Extern.Sync.canSpin):=by kernel_rfl
def Kv:(Tryz.f111.name== "runtime.NumGoroutine")=false:=by kernel_rfl
def Kw:Tryz.f111.body.isNone=true:=by kernel_rfl
def Ky:Extern.findNext Tryz.f111=none:=by kernel_rfl
def Kz:Extern.find Tryz.f111=some (λ_=>pure (.tuple #[])):=by kernel_rfl
def IL:(Tryz.f113.name== "runtime.NumGoroutine")=false:=by kernel_rfl
def IM:Tryz.f113.body.isNone=true:=by kernel_rfl
def IP:Extern.findNext Tryz.f113=none:=by kernel_rfl
def IQ:Extern.find Tryz.f113=some (Extern.OsHooks.nano):=by kernel_rfl
def CG:(Tryz.f114.name== "runtime.NumGoroutine")=false:=by kernel_rfl
def CJ:Tryz.f114.body.isNone=true:=by kernel_rfl
def CK:Extern.findNext Tryz.f114=none:=by kernel_rfl
def CL:Extern.find Tryz.f114=some (Extern.Sync.semacquire):=by kernel_rfl
def KA:(Tryz.f116.name== "runtime.NumGoroutine")=false:=by kernel_rfl
def CO:Tryz.f116.body.isNone=true:=by kernel_rfl
def KC:Extern.findNext Tryz.f116=none:=by kernel_rfl
def KD:Extern.find Tryz.f116=some (Extern.Sync.semrelease):=by kernel_rfl
def IU:Tryz.f113.norace=true:=by kernel_rfl
def KE:Tryz.prog.underlying 156=some (.pointer 81):=by kernel_rfl
def Rh:(Tryz.prog.info? 81).map (λi=>decide (i.size=0))=some false:=by kernel_rfl
def OG:(Tryz.prog.funcs[(base 80).fn]?).any (·.norace)=true:=by kernel_rfl
def pR:(Tryz.prog.funcs[(base 101).fn]?).any (·.norace)=true:=by kernel_rfl
section
variable {main:Bool} {b:Frame} {a:Act} {kk:List Item} {cs:List Frame} {w:World} {ops:Array Oper} {i:Nat} {rest:List Nat} {o:Oper}
def lI{x:Operand}(ho:ops[i]?=some o)(hw:Region.wanted o (yielded ops a.tmps)=true)(hk:b.kind≠ .early)(hop:o.op=.load 21 x)
 {ad:Addr} {v:Int} (hx:a.eval x=.pointer (some ad)) (hc:w.cell? ad=some (.int .i32 v)) (hq:(Tryz.prog.funcs[b.fn]?).any (·.norace)=true):
 stepG Tryz.prog main (G (b.at a (.inRegion ops (i::rest)::kk)) cs) w=.go (G (b.at (a.put o.dst (.int .i32 v)) (.inRegion ops rest::kk)) cs) w #[]:=by
 have hr:(execOp a.eval o).run Tryz.prog w=.ok (.value (.int .i32 v)) w:=by unfold execOp;simp only[hop,hx];simp[go_sem,hc]
 have he:(execOp a.eval o).events Tryz.prog w #[]= #[⟨.cell ad,false,false⟩]:=by unfold execOp;simp only[hop,hx];simp[go_sem,hc]
 rw[stepG_value ho hw hk hr];unfold listed;rw[he,seen_def,hq];simp[seenStep]
end
def fH:Code->Option Code
 | .loop c=>some c
 | .seq x y=>match fH x with |some c=>some c|none=>fH y
 | .block _ c=>fH c
 |_=>none
def gq:Code->Option Code
 | .seq (.block _ _) r=>some r
 | .seq _ y=>gq y
 |_=>none
def jF(n:Nat):Code->Option (Array Oper)
 | .region m ops _=>if m=n then some ops else none
 |_=>none
def gG(n:Nat):Code->Option (Array Oper×Code)
 | .seq x y=>match jF n x with
   |some ops=>some (ops,y)
   |none=>match gG n x with
    |some c=>some c
    |none=>gG n y
 | .cond _ x y=>match gG n x with
     |some c=>some c
     |none=>gG n y
 | .block _ c=>gG n c
 | .loop c=>gG n c
 | .region m ops _=>if m=n then some (ops,.skip)else none
 |_=>none
def fE(n:Nat):Code->Option Code
 | .seq x y=>match jF n x with
   |some _=>some (.seq x y)
   |none=>match fE n x with
    |some c=>some c
    |none=>fE n y
 | .cond _ x y=>match fE n x with
     |some c=>some c
     |none=>fE n y
 | .block _ c=>fE n c
 | .loop c=>fE n c
 |_=>none
noncomputable def kG:Code:=Tryz.f101.body.getD .skip
noncomputable def LL:Code:=(fH kG).getD .skip
noncomputable def REST:Code:=(gq kG).getD .skip
noncomputable def KF(n:Nat):Array Oper:=((gG n LL).getD (#[],.skip)).1
noncomputable def MC(n:Nat):Code:=(fE n LL).getD .skip
noncomputable def ME(n:Nat):Code:=((gG n LL).getD (#[],.skip)).2
end Go.Proofs.Tryz
end
section
namespace Go.Proofs.Tryz
open Go Go.Conc Go.ConcN Go.ConcM Go.RowKit Go.Conc.Lib Go.ConcR.Gen cS
open Go.ConcR (KK wgBlock WgAt stA smA rd wr mk AtMkS)
section
variable {Mu Wg:Nat} {ty:TypeId} {N:Nat->Nat} {J:Nat->Nat->(Nat->Prop)->World->Prop} {ro:Nat->Prop} {Anch:(Nat->Prop)->Goroutine->World->Prop}
variable {own:Nat->Prop} {W0:World} {i k c:Nat} {b₁:Frame} {qaf:Act} {ao1:Array Oper} {i₁:Nat} {al7:List Nat} {k₁:List Item} {cs₁:List Frame}
abbrev cfg(Mu Wg:Nat)(ty:TypeId)(N:Nat->Nat)(J:Nat->Nat->(Nat->Prop)->World->Prop)(ro:Nat->Prop)(Anch:(Nat->Prop)->Goroutine->World->Prop):Bq LT MS:=nR Mu Wg 83 ty N J ro Anch
def WN(Mu Wg:Nat)(ty:TypeId)(N:Nat->Nat)(J:Nat->Nat->(Nat->Prop)->World->Prop)(ro:Nat->Prop)(Anch:(Nat->Prop)->Goroutine->World->Prop)(own:Nat->Prop)(W0:World)(i k c:Nat)(g:Goroutine):Prop:=
 ∀(o:Nat)(Gu:Nat->Prop)(W1 w:World),dM ((cfg Mu Wg ty N J ro Anch).Zw k) own W0 W1->(∀b,Gu b->¬own b)->Jk J k c o Gu W1->KM 83 Mu ((cfg Mu Wg ty N J ro Anch).Zw k) (λb=>own b∨Gu b) W1 w->
  Gw Tryz.prog (i==0) ((cfg Mu Wg ty N J ro Anch).Zw k) (At Tryz.prog (cfg Mu Wg ty N J ro Anch).sys i (.bd k ⟨lk .ur,c,o⟩)) (λb=>own b∨Gu b) g w
def gI{tM:TypeId}{P:Program}{main:Bool}{Z:fO}{S:(Nat->Prop)->Goroutine->World->Prop}{n:Nat}{g:Goroutine}{w:World}(hz:Z.sy Mu)(hF:KM tM Mu Z own W0 w)(h:∀w,KM tM Mu Z own W0 w->S own g w):
 Goes P main (dM Z own) Go.ConcR.DC0 (λg W=>Gw P main Z S own g W) n g w:=cz λ_ h1=>.stop λ_ h2=>h _ (dB hz (dB hz hF h1) h2)
end
def Yn:Nat->(List Value->Prop)->Prop
 |0,P=>P []
 |n+1,P=>∀x,Yn n λl=>P (x::l)
def rr:∀{n:Nat}{P:List Value->Prop}{l:List Value},l.length=n->Yn n P->P l
 |0,_,[],_,h=>h
 |_+1,_,x::l,e,h=>rr (l:=l) (Nat.succ.inj (by simpa using e)) (h x)
def ng{n:Nat}{P:Array Value->Prop}{t:Array Value}(ht:t.size=n)(h:Yn n λl=>P l.toArray):P t:=by obtain⟨l⟩:=t;exact rr (P:= λl=>P l.toArray) ht h
structure LC where
 Mu:Nat
 Wg:Nat
 ty:TypeId
 N:Nat->Nat
 J:Nat->Nat->(Nat->Prop)->World->Prop
 ro:Nat->Prop
 Anch:(Nat->Prop)->Goroutine->World->Prop
 own:Nat->Prop
 W0:World
 i:Nat
 k:Nat
 c:Nat
 b:Frame
 a:Act
 O:Array Oper
 j:Nat
 r:List Nat
 q:List Item
 cs:List Frame
 hne:Mu≠Wg
 hi:i≠0
 hb:Beside (cfg Mu Wg ty N J ro Anch) ((cfg Mu Wg ty N J ro Anch).Zw k) own
 hT:WN Mu Wg ty N J ro Anch own W0 i k c (G (b.at (a.put ((O[j]?).bind (·.dst)) (.tuple #[])) (.inRegion O r::q)) cs)
namespace LC
variable (C:LC)
abbrev cf:Bq LT MS:=cfg C.Mu C.Wg C.ty C.N C.J C.ro C.Anch
abbrev Z:fO:=C.cf.Zw C.k
abbrev km(w:World):Prop:=KM 83 C.Mu C.Z C.own C.W0 w
abbrev g(t:Array Value)(kk:List Item):Goroutine:=G ((base 101).at ⟨t,[]⟩ kk) (C.b.at C.a (.inRegion C.O (C.j::C.r)::C.q)::C.cs)
def fr(t:Array Value)(ws sv aw:Bool)(it:Nat):Prop:=∃GX:Int,t.size=139∧ws=decide (GX≠0)∧t.getD 0 undef=.pointer (some ⟨C.Mu,0,none⟩)∧t.getD 2 undef=.int .i64 GX∧t.getD 3 undef=.bool sv∧t.getD 4 undef=.bool aw∧t.getD 5 undef=.int .i64 it
end LC
inductive fg(C:LC):jE (FT LT)
 |mk {old it n:Nat} {aw sv ws:Bool} {t:Array Value} {w:World} (hF:C.km w) (hf:C.fr t ws sv aw it) (h6:t.getD 6 undef=.int .i32 (old:Nat)):fg C C.i (.bd C.k ⟨⟨.hd,old,0,aw,sv,it,ws⟩,C.c,n⟩) C.own (C.g t [.code LL,.inLoop LL,.inBlock 0,.code REST]) w
namespace LC
variable (C:LC)
abbrev X:jE (FT LT):=Eh Tryz.prog C.cf.sys λi' T dD g w=>fg C i' T dD g w∨At Tryz.prog C.cf.sys i' T dD g w
abbrev gw(l:LK)(n:Nat)(t:Array Value)(kk:List Item)(w:World):Prop:=Gw Tryz.prog false C.Z (C.X C.i (.bd C.k ⟨l,C.c,n⟩)) C.own (C.g t kk) w
abbrev law(l:LK)(n:Nat)(t:Array Value)(kk:List Item)(w:World):Prop:=xI Tryz.prog C.cf.sys C.X C.i (.bd C.k ⟨l,C.c,n⟩) C.own (C.g t kk) w
theorem e0:(C.i==0)=false:=by simpa using C.hi
theorem hz:C.Z.sy C.Mu:=.inl (.inl rfl)
end LC
noncomputable def KL(n:Nat)(r:List Nat):List Item:=[.inRegion (KF n) r,.code (ME n),.inBlock 1,.inLoop LL,.inBlock 0,.code REST]
noncomputable def KR:List Item:=[.inRegion ((gG 40 REST).getD (#[],.skip)).1 [0],.code ((gG 40 REST).getD (#[],.skip)).2]
end Go.Proofs.Tryz
end
