/- Part 8. -/
import Derived.Test.YtmhmpoeoapkbaaaGreatProg
import Derived.Test.YtmhmpoeoapkbaaaGreatH06
set_option maxRecDepth 100000
set_option maxHeartbeats 0
set_option linter.all false
section
namespace Go.Proofs
abbrev Tryz.link:Go.Conc.Lib.WgLink:={ add:=34,done:=36,wait:=41,relMerge:=60,disable:=61,enable:=62,inBubble:=63,associate:=64,fatal:=65,uOr:=66,uAdd:=67,raceRead:=68,uLoad:=69,uStore:=70,disassociate:=71,semrelease:=72,acquire:=75,isAssociated:=76,uCas:=77,raceWrite:=78,semacquire:=79,orU64:=90,addU64:=91,loadU64:=92,storeU64:=93,casU64:=98,tWgP:=118,tUP:=120,tAssoc:=121,tWg:=86,tAU:=84,tU64:=82,tUint:=93,tU32:=75,tPU32:=125,tPAU:=145,tPU64:=147,tNoCopy:=74,tANoCopy:=80,tAlign64:=81 }
theorem Tryz.mK:Go.Conc.Lib.WgLib Tryz.prog Tryz.link:=
 ⟨Tryz.func34,Tryz.func36,Tryz.func41,Tryz.func60,Tryz.func61,Tryz.func62,Tryz.func63,Tryz.func64,Tryz.func65,Tryz.func66,Tryz.func67,Tryz.func68,Tryz.func69,Tryz.func70,Tryz.func71,Tryz.func72,Tryz.func75,Tryz.func76,Tryz.func77,Tryz.func78,Tryz.func79,Tryz.func90,Tryz.func91,Tryz.func92,Tryz.func93,Tryz.func98,Tryz.underlying118,Tryz.runUnderlying118,Tryz.sizeOf118,Tryz.isAgg118,Tryz.zeroValue118,Tryz.underlying120,Tryz.runUnderlying120,Tryz.sizeOf120,Tryz.isAgg120,Tryz.zeroValue120,Tryz.underlying121,Tryz.runUnderlying121,Tryz.sizeOf121,Tryz.isAgg121,Tryz.zeroValue121,Tryz.underlying86,Tryz.runUnderlying86,Tryz.sizeOf86,Tryz.isAgg86,Tryz.zeroValue86,Tryz.underlying84,Tryz.runUnderlying84,Tryz.sizeOf84,Tryz.isAgg84,Tryz.zeroValue84,Tryz.underlying82,Tryz.runUnderlying82,Tryz.sizeOf82,Tryz.isAgg82,Tryz.zeroValue82,Tryz.underlying93,Tryz.runUnderlying93,Tryz.sizeOf93,Tryz.isAgg93,Tryz.zeroValue93,Tryz.underlying75,Tryz.runUnderlying75,Tryz.sizeOf75,Tryz.isAgg75,Tryz.zeroValue75,Tryz.underlying125,Tryz.runUnderlying125,Tryz.sizeOf125,Tryz.isAgg125,Tryz.zeroValue125,Tryz.underlying145,Tryz.runUnderlying145,Tryz.sizeOf145,Tryz.isAgg145,Tryz.zeroValue145,Tryz.underlying147,Tryz.runUnderlying147,Tryz.sizeOf147,Tryz.isAgg147,Tryz.zeroValue147,Tryz.underlying0,Tryz.runUnderlying0,Tryz.sizeOf0,Tryz.isAgg0,Tryz.zeroValue0,Tryz.underlying3,Tryz.runUnderlying3,Tryz.sizeOf3,Tryz.isAgg3,Tryz.zeroValue3,Tryz.underlying4,Tryz.runUnderlying4,Tryz.sizeOf4,Tryz.isAgg4,Tryz.zeroValue4,Tryz.underlying9,Tryz.runUnderlying9,Tryz.sizeOf9,Tryz.isAgg9,Tryz.zeroValue9,Tryz.underlying20,Tryz.runUnderlying20,Tryz.sizeOf20,Tryz.isAgg20,Tryz.zeroValue20,Tryz.underlying21,Tryz.runUnderlying21,Tryz.sizeOf21,Tryz.isAgg21,Tryz.zeroValue21,(by kernel_rfl),(by kernel_rfl)⟩
end Go.Proofs
namespace Go.Proofs.Tryz
open Go Go.Conc Go.ConcN Go.ConcM Go.RowKit Go.Conc.Lib Go.ConcR.Gen
theorem Rf:(Tryz.f73.name== "runtime.NumGoroutine")=false:=by kernel_rfl
theorem Ku:(Tryz.f74.name== "runtime.NumGoroutine")=false:=by kernel_rfl
theorem IK:(Tryz.f95.name== "runtime.NumGoroutine")=false:=by kernel_rfl
theorem qM:(Tryz.f97.name== "runtime.NumGoroutine")=false:=by kernel_rfl
theorem Vd:(Tryz.f39.name== "runtime.NumGoroutine")=false:=by kernel_rfl
theorem EM:(Tryz.f40.name== "runtime.NumGoroutine")=false:=by kernel_rfl
theorem yE:(Tryz.f94.name== "runtime.NumGoroutine")=false:=by kernel_rfl
theorem yF:Tryz.f94.body.isNone=true:=by kernel_rfl
theorem yG:Extern.findNext Tryz.f94=none:=by kernel_rfl
theorem yH:Extern.find Tryz.f94=some (Extern.Atomic.casT (.int .i32)):=by kernel_rfl
theorem yI:(Tryz.f96.name== "runtime.NumGoroutine")=false:=by kernel_rfl
theorem yJ:Tryz.f96.body.isNone=true:=by kernel_rfl
theorem yK:Extern.findNext Tryz.f96=none:=by kernel_rfl
theorem yL:Extern.find Tryz.f96=some (Extern.Atomic.update (Op.intArith .add) .i32 true):=by kernel_rfl
theorem uI:(Tryz.f105.name== "runtime.NumGoroutine")=false:=by kernel_rfl
theorem uJ:Tryz.f105.body.isNone=true:=by kernel_rfl
theorem uK:Extern.findNext Tryz.f105=none:=by kernel_rfl
theorem uL:Extern.find Tryz.f105=some (Extern.Sync.canSpin):=by kernel_rfl
theorem Kv:(Tryz.f106.name== "runtime.NumGoroutine")=false:=by kernel_rfl
theorem Kw:Tryz.f106.body.isNone=true:=by kernel_rfl
theorem Ky:Extern.findNext Tryz.f106=none:=by kernel_rfl
theorem Kz:Extern.find Tryz.f106=some (λ_=>pure (.tuple #[])):=by kernel_rfl
theorem IL:(Tryz.f108.name== "runtime.NumGoroutine")=false:=by kernel_rfl
theorem IM:Tryz.f108.body.isNone=true:=by kernel_rfl
theorem IP:Extern.findNext Tryz.f108=none:=by kernel_rfl
theorem IQ:Extern.find Tryz.f108=some (Extern.OsHooks.nano):=by kernel_rfl
theorem CG:(Tryz.f109.name== "runtime.NumGoroutine")=false:=by kernel_rfl
theorem CJ:Tryz.f109.body.isNone=true:=by kernel_rfl
theorem CK:Extern.findNext Tryz.f109=none:=by kernel_rfl
theorem CL:Extern.find Tryz.f109=some (Extern.Sync.semacquire):=by kernel_rfl
theorem KA:(Tryz.f111.name== "runtime.NumGoroutine")=false:=by kernel_rfl
theorem CO:Tryz.f111.body.isNone=true:=by kernel_rfl
theorem KC:Extern.findNext Tryz.f111=none:=by kernel_rfl
theorem KD:Extern.find Tryz.f111=some (Extern.Sync.semrelease):=by kernel_rfl
theorem IU:Tryz.f108.norace=true:=by kernel_rfl
theorem KE:Tryz.prog.underlying 150=some (.pointer 77):=by kernel_rfl
theorem Rh:(Tryz.prog.info? 77).map (λi=>decide (i.size=0))=some false:=by kernel_rfl
theorem OG:(Tryz.prog.funcs[(base 74).fn]?).any (·.norace)=true:=by kernel_rfl
theorem pR:(Tryz.prog.funcs[(base 95).fn]?).any (·.norace)=true:=by kernel_rfl
section
variable {main:Bool} {b:Frame} {a:Act} {kk:List Item} {cs:List Frame} {w:World} {ops:Array Oper} {i:Nat} {rest:List Nat} {o:Oper}
theorem lI{x:Operand}(ho:ops[i]?=some o)(hw:Region.wanted o (yielded ops a.tmps)=true)(hk:b.kind≠ .early)(hop:o.op=.load 21 x)
 {ad:Addr} {v:Int} (hx:a.eval x=.pointer (some ad)) (hc:w.cell? ad=some (.int .i32 v)) (hq:(Tryz.prog.funcs[b.fn]?).any (·.norace)=true):
 stepG Tryz.prog main (G (b.at a (.inRegion ops (i::rest)::kk)) cs) w=.go (G (b.at (a.put o.dst (.int .i32 v)) (.inRegion ops rest::kk)) cs) w #[]:=by
 have hr:(execOp a.eval o).run Tryz.prog w=.ok (.value (.int .i32 v)) w:=by
  unfold execOp;simp only[hop,hx];simp[go_sem,hc]
 have he:(execOp a.eval o).events Tryz.prog w #[]= #[⟨.cell ad,false,false⟩]:=by
  unfold execOp;simp only[hop,hx];simp[go_sem,hc]
 rw[stepG_value ho hw hk hr];unfold listed;rw[he,seen_def,hq];simp[seenStep]
end
def fH:Code->Option Code
 | .loop c=>some c
 | .seq x y=>match fH x with |some c=>some c|none=>fH y
 | .block _ c=>fH c
 |_=>none
def gq:Code->Option Code
 | .seq (.block _ _) r=>some r
 | .seq _ y=>gq y
 |_=>none
def jF(n:Nat):Code->Option (Array Oper)
 | .region m ops _=>if m=n then some ops else none
 |_=>none
def gG(n:Nat):Code->Option (Array Oper×Code)
 | .seq x y=>match jF n x with
   |some ops=>some (ops,y)
   |none=>match gG n x with
    |some c=>some c
    |none=>gG n y
 | .cond _ x y=>match gG n x with
     |some c=>some c
     |none=>gG n y
 | .block _ c=>gG n c
 | .loop c=>gG n c
 | .region m ops _=>if m=n then some (ops,.skip)else none
 |_=>none
def fE(n:Nat):Code->Option Code
 | .seq x y=>match jF n x with
   |some _=>some (.seq x y)
   |none=>match fE n x with
    |some c=>some c
    |none=>fE n y
 | .cond _ x y=>match fE n x with
     |some c=>some c
     |none=>fE n y
 | .block _ c=>fE n c
 | .loop c=>fE n c
 |_=>none
noncomputable def kG:Code:=Tryz.f95.body.getD .skip
noncomputable def LL:Code:=(fH kG).getD .skip
noncomputable def REST:Code:=(gq kG).getD .skip
noncomputable def KF(n:Nat):Array Oper:=((gG n LL).getD (#[],.skip)).1
noncomputable def MC(n:Nat):Code:=(fE n LL).getD .skip
noncomputable def ME(n:Nat):Code:=((gG n LL).getD (#[],.skip)).2
end Go.Proofs.Tryz
end
section
namespace Go.Proofs.Tryz
open Go Go.Conc Go.ConcN Go.ConcM Go.RowKit Go.Conc.Lib Go.ConcR.Gen Par
open Go.ConcR (KK wgBlock WgAt stA smA rd wr mk AtMkS)
section
variable {Mu Wg:Nat} {ty:TypeId} {N:Nat->Nat} {J:Nat->Nat->(Nat->Prop)->World->Prop} {ro:Nat->Prop} {Anch:(Nat->Prop)->Goroutine->World->Prop}
variable {own:Nat->Prop} {W0:World} {i k c:Nat} {b₁:Frame} {cu:Act} {ao1:Array Oper} {i₁:Nat} {al7:List Nat} {k₁:List Item} {cs₁:List Frame}
abbrev cfg(Mu Wg:Nat)(ty:TypeId)(N:Nat->Nat)(J:Nat->Nat->(Nat->Prop)->World->Prop)(ro:Nat->Prop)(Anch:(Nat->Prop)->Goroutine->World->Prop):Bq LT MS:=nR Mu Wg 79 ty N J ro Anch
def WN(Mu Wg:Nat)(ty:TypeId)(N:Nat->Nat)(J:Nat->Nat->(Nat->Prop)->World->Prop)(ro:Nat->Prop)(Anch:(Nat->Prop)->Goroutine->World->Prop)(own:Nat->Prop)(W0:World)(i k c:Nat)(g:Goroutine):Prop:=
 ∀(o:Nat)(Gu:Nat->Prop)(W1 w:World),dM ((cfg Mu Wg ty N J ro Anch).Zw k) own W0 W1->(∀b,Gu b->¬own b)->Jk J k c o Gu W1->KM 79 Mu ((cfg Mu Wg ty N J ro Anch).Zw k) (λb=>own b∨Gu b) W1 w->
  Gw Tryz.prog (i==0) ((cfg Mu Wg ty N J ro Anch).Zw k) (At Tryz.prog (cfg Mu Wg ty N J ro Anch).sys i (.bd k ⟨lk .ur,c,o⟩)) (λb=>own b∨Gu b) g w
theorem gI{tM:TypeId}{P:Program}{main:Bool}{Z:fO}{S:(Nat->Prop)->Goroutine->World->Prop}{n:Nat}{g:Goroutine}{w:World}(hz:Z.sy Mu)(hF:KM tM Mu Z own W0 w)(h:∀w,KM tM Mu Z own W0 w->S own g w):
 Goes P main (dM Z own) Go.ConcR.DC0 (λg W=>Gw P main Z S own g W) n g w:=cz λ_ h1=>.stop λ_ h2=>h _ (dB hz (dB hz hF h1) h2)
end
def Yn:Nat->(List Value->Prop)->Prop
 |0,P=>P []
 |n+1,P=>∀x,Yn n λl=>P (x::l)
theorem af3:∀{n:Nat}{P:List Value->Prop}{l:List Value},l.length=n->Yn n P->P l
 |0,_,[],_,h=>h
 |_+1,_,x::l,e,h=>af3 (l:=l) (Nat.succ.inj (by simpa using e)) (h x)
theorem ng{n:Nat}{P:Array Value->Prop}{t:Array Value}(ht:t.size=n)(h:Yn n λl=>P l.toArray):P t:=by
 obtain⟨l⟩:=t;exact af3 (P:= λl=>P l.toArray) ht h
structure LC where
 Mu:Nat
 Wg:Nat
 ty:TypeId
 N:Nat->Nat
 J:Nat->Nat->(Nat->Prop)->World->Prop
 ro:Nat->Prop
 Anch:(Nat->Prop)->Goroutine->World->Prop
 own:Nat->Prop
 W0:World
 i:Nat
 k:Nat
 c:Nat
 b:Frame
 a:Act
 O:Array Oper
 j:Nat
 r:List Nat
 q:List Item
 cs:List Frame
 hne:Mu≠Wg
 hi:i≠0
 hb:Beside (cfg Mu Wg ty N J ro Anch) ((cfg Mu Wg ty N J ro Anch).Zw k) own
 hT:WN Mu Wg ty N J ro Anch own W0 i k c (G (b.at (a.put ((O[j]?).bind (·.dst)) (.tuple #[])) (.inRegion O r::q)) cs)
namespace LC
variable (C:LC)
abbrev cf:Bq LT MS:=cfg C.Mu C.Wg C.ty C.N C.J C.ro C.Anch
abbrev Z:fO:=C.cf.Zw C.k
abbrev km(w:World):Prop:=KM 79 C.Mu C.Z C.own C.W0 w
abbrev g(t:Array Value)(kk:List Item):Goroutine:=G ((base 95).at ⟨t,[]⟩ kk) (C.b.at C.a (.inRegion C.O (C.j::C.r)::C.q)::C.cs)
def fr(t:Array Value)(ws sv aw:Bool)(it:Nat):Prop:=∃GX:Int,t.size=139∧ws=decide (GX≠0)∧t.getD 0 undef=.pointer (some ⟨C.Mu,0,none⟩)∧t.getD 2 undef=.int .i64 GX∧t.getD 3 undef=.bool sv∧t.getD 4 undef=.bool aw∧t.getD 5 undef=.int .i64 it
end LC
inductive HdX(C:LC):jE (FT LT)
 |mk {old it n:Nat} {aw sv ws:Bool} {t:Array Value} {w:World} (hF:C.km w) (hf:C.fr t ws sv aw it) (h6:t.getD 6 undef=.int .i32 (old:Nat)):HdX C C.i (.bd C.k ⟨⟨.hd,old,0,aw,sv,it,ws⟩,C.c,n⟩) C.own (C.g t [.code LL,.inLoop LL,.inBlock 0,.code REST]) w
namespace LC
variable (C:LC)
abbrev X:jE (FT LT):=Eh Tryz.prog C.cf.sys λi' T dD g w=>HdX C i' T dD g w∨At Tryz.prog C.cf.sys i' T dD g w
abbrev gw(l:LK)(n:Nat)(t:Array Value)(kk:List Item)(w:World):Prop:=Gw Tryz.prog false C.Z (C.X C.i (.bd C.k ⟨l,C.c,n⟩)) C.own (C.g t kk) w
abbrev law(l:LK)(n:Nat)(t:Array Value)(kk:List Item)(w:World):Prop:=xI Tryz.prog C.cf.sys C.X C.i (.bd C.k ⟨l,C.c,n⟩) C.own (C.g t kk) w
theorem e0:(C.i==0)=false:=by simpa using C.hi
theorem hz:C.Z.sy C.Mu:=.inl (.inl rfl)
end LC
noncomputable def KL(n:Nat)(r:List Nat):List Item:=[.inRegion (KF n) r,.code (ME n),.inBlock 1,.inLoop LL,.inBlock 0,.code REST]
noncomputable def KR:List Item:=[.inRegion ((gG 40 REST).getD (#[],.skip)).1 [0],.code ((gG 40 REST).getD (#[],.skip)).2]
end Go.Proofs.Tryz
end
