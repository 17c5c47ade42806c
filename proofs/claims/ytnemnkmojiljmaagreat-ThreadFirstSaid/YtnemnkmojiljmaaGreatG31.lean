/- Part 31. -/
import Derived.Test.YtnemnkmojiljmaaGreatRows
import Derived.Test.YtnemnkmojiljmaaGreatG07
import Derived.Test.YtnemnkmojiljmaaGreatG30
set_option maxRecDepth 100000
set_option maxHeartbeats 0
set_option linter.all false
namespace Go.Proofs
open Go Go.RowKit Go.Maps
section
variable [Lo.St]
theorem Lo.Lh (a b l h:Int) (w:World):Calls Lo.prog 55 #[.agg #[.int .i64 a,.int .i64 b],.int .i64 l,.int .i64 h] w λe w'=>e= .returned (.bool (fC a b l h))∧Below w.heap.size w w':=by
 obtain ⟨U,U2,U3,U4,U5,U6⟩:=Lo.facts
 by_cases h1:l<=a
 ·by_cases h2:a<=b
  ·by_cases h3:b<=h
   ·go_enter Lo.get Tryz.func55,Tryz.ntmps55;go_wp2;go_ret;exact ⟨by simp [fC,h1,h2,h3],(dz _ _).alloc (aJ _) _⟩
   ·go_enter Lo.get Tryz.func55,Tryz.ntmps55;go_wp2;go_ret;exact ⟨by simp [fC,h1,h2,h3],(dz _ _).alloc (aJ _) _⟩
  ·go_enter Lo.get Tryz.func55,Tryz.ntmps55;go_wp2;go_ret;exact ⟨by simp [fC,h1,h2];intro h;omega,(dz _ _).alloc (aJ _) _⟩
 ·go_enter Lo.get Tryz.func55,Tryz.ntmps55;go_wp2;go_ret;exact ⟨by simp [fC,h1];intro h;omega,(dz _ _).alloc (aJ _) _⟩
end
section
variable [Lo.St]
theorem any_false {α:Type} {f:α->Bool} {l:List α} (h:∀x∈l,f x=false):l.any f=false:=by
 rw [List.any_eq_false];exact λx hx=>by rw [h x hx];simp
structure CkS (dU:List (Int×Int)) (cs:List (Int×Int×Int)) (limit:Int):Prop where
 nl:dU.length<=6
 nc:1<=cs.length∧cs.length<=4
 lot:∀x∈dU,nI x=false
 cut:∀x∈cs,lY x=false
 lim:0<=limit∧limit<=1000000
theorem CkS.zero {dU:List (Int×Int)} {cs:List (Int×Int×Int)} {limit:Int} (h:CkS dU cs limit):gq dU cs limit=0:=by
 have b1:nQ cs.length 1 4=true:=by unfold nQ;have :=h.nc;simp;omega
 have b2:nQ limit 0 1000000=true:=by unfold nQ;have :=h.lim;simp;omega
 unfold gq;rw [aa (by have :=h.nl;omega),aa (by rw [b1];simp),aa (by rw [any_false h.lot];simp),aa (by rw [any_false h.cut];simp),aa (by rw [b2];simp)]
end
section
variable [Lo.St]
theorem Xf {P:Program} {q:FuncId} {fn:Func} (h:P.funcs[q]?=some fn) (c:Code):(P.stub q c).funcs[q]?=some { fn with body:=some c }:=by
 show (P.funcs.modify q _)[q]?=_
 rw [bC,aj rfl,h];rfl
theorem Lo.at5:Lo.prog.funcs[14]?=some { Tryz.f14 with body:=some Lo.St.c5 }:=by
 rw [Lo.jL];exact Par.uJ _ _ _ (Xf Tryz.func14 _) (by decide)
theorem Lo.call14 (args:Array Value) (w:World):Sem.run Lo.prog (callFunc 14 args) w= .ok (.enter 14 args) w:=by
 have hn:(Tryz.f14.name== "runtime.NumGoroutine")=false:=by kernel_rfl
 unfold callFunc;simp only [program,Bind.bind,Sem.bind,Sem.run,Lo.at5,hn];rfl
def ab2 [Lo.St]:Prop:=∀w:World,Calls Lo.prog 14 #[] w λe w'=>e= .returned (.bool true)∧w'=w
end
section
variable [Lo.St]
end
end Go.Proofs
namespace Go.Proofs.Tryz
open Go Go.RowKit Par
section
attribute [local instance] noSh
@[reducible] noncomputable def QV:Lo.St:=⟨Tryz.c0,Tryz.f28.body.getD .skip⟩
noncomputable def lM:Program:=Tryz.prog.stub 14 Tryz.c0
noncomputable def Xg:Func:={ Tryz.f14 with body:=some Tryz.c0 }
theorem II:lM.funcs[14]?=some Xg:=by unfold lM Xg;exact QK Tryz.func14 _
theorem Xh: @Lo.prog QV=lM:=by
 rw [@Lo.jL QV];show (Tryz.prog.stub 14 Tryz.c0).stub 28 (Tryz.f28.body.getD .skip)=lM;exact uM (fn:=Tryz.f28) ((zW Tryz.prog Tryz.c0 (by decide)).trans Tryz.func28) (by unfold Tryz.f28;rfl)
theorem ak0:Par.Alike lM Tryz.prog:=by
 refine .inr ⟨14,Tryz.f14.body.getD .skip,Tryz.c0,Xg,II,rfl,?_⟩;unfold lM;rw [J8];exact (uM Tryz.func14 (by unfold Tryz.f14;rfl)).symm
theorem au9 (g:FuncId) (h:Tryz.prog.funcs[g]?≠lM.funcs[g]?):g=14:=by
 by_cases e:g=14
 ·exact e
 ·exfalso;refine h ?_
  unfold lM;exact (zW Tryz.prog _ e).symm
theorem ak1:jK lM=true:=by
 unfold lM;exact Iz _ _ _ gQ
def l0:List FuncId:=[10,31,36,37,14,35,34,30,71,72,73,74,75,54,55,49,112,113,50,114,115,116,132,133,
 9,13,15,17,18,24,32,43,47,48,51,52,53,56,57,70,79,83,84,85,86,87,88,89,90,117,118,119,120,121,122,134,135]
def S0 (g:FuncId):Bool:=l0.contains g
def V0 (g:FuncId):Bool:=l0.contains g&&g !=14
theorem av0:l0.all (JE lM S0 V0)=true:=by kernel_rfl
def b5:Frame:={ fn:=14,tmps:= #[],todo:=[],defers:=[],mode:=.run,kind:=.normal }
noncomputable def gF (P:Program):Frame:={ b5.at ⟨(Array.replicate 160 undef).setIfInBounds 0 (.bool true),[]⟩ [.code .ret] with mode:=.returning }
theorem Xi {P:Program} (h:P.funcs[14]?=some Xg) (cs:List Frame) (w:World):runN P 5 (lone (Frame.enter P 14 #[] .normal) cs w)= .next (lone (gF P) cs w):=by
 have hn:Xg.ntmps=160:=by unfold Xg Tryz.f14;rfl
 have hb:Xg.body=some Tryz.c0:=rfl
 have e:Frame.enter P 14 #[] .normal=b5.at ⟨Array.replicate 160 undef,[]⟩ [.code Tryz.c0]:=by
  simp [Frame.enter,h,hb,hn,Frame.at,b5]
 have s3:∀(T:Array Value) (ops:Array Oper),ops= #[{ dst:=some 0,op:=.assign (.const (.bool true)),type:=4,pos:= "",after:= #[],guard:=none }]->step P (lone (b5.at ⟨T,[]⟩ (.inRegion ops [0]:: [.code .ret])) cs w)= .next (lone (b5.at ⟨T.setIfInBounds 0 (.bool true),[]⟩ (.inRegion ops []:: [.code .ret])) cs w):= λT ops ho=>by
  subst ho;refine step_lone_go ?_
  rw [stepG_op (o:={ dst:=some 0,op:=.assign (.const (.bool true)),type:=4,pos:= "",after:= #[],guard:=none }) rfl rfl];simp [stepG.apply,execOp,Frame.at,b5,Frame.finish,Act.eval]
 rw [e];unfold Tryz.c0;simp only [runN,step_seq,step_region];rw [show List.range (#[({ dst:=some 0,op:=.assign (.const (.bool true)),type:=4,pos:= "",after:= #[],guard:=none }:Oper)]).size= [0] from rfl,s3 _ _ rfl];simp only [step_region_end,step_ret];rfl
theorem Nv {P:Program} (h:P.funcs[14]?=some Xg) (w:World):(gF P).leaving P w (.returned (.bool true)):=by
 refine ⟨rfl,rfl,rfl,Xg,h,?_⟩;have hr:Xg.results= #[.tmp 0]:=by unfold Xg Tryz.f14;rfl
 unfold results;rw [hr];simp [gF,Frame.at]
theorem plain0:Plain lM 14 (.bool true):=by
 refine ⟨5, λc cs w hc=>?_⟩;rw [runN_add,Xi II];show runN lM 1 (lone (gF lM) (c::cs) w)=_;simp only [runN];rw [step_leave_returned (Nv II w)]
theorem av1: @ab2 QV:=by
 intro w cs;rw [Xh];exact ⟨.returned (.bool true),w,gF lM,⟨rfl,rfl⟩,⟨5,Xi II cs w⟩,rfl,Nv II w⟩
theorem ak2 [Sh] (A:Nat->Bool):nX lM (FA S0 V0 (fM lM S0 V0) A):=
 Qh (λg hg=>bH.1 av0 g (by simpa [S0] using hg)) (λg h=>by simp only [V0,bD] at h;exact h.1) A
theorem ak3 (g:FuncId) (_:S0 g=true) (h:Tryz.prog.funcs[g]?≠lM.funcs[g]?):g=14∧V0 g=false:=by
 obtain rfl:=au9 g h;exact ⟨rfl,rfl⟩
theorem QW:Tryz.prog.globals.size=0:=by kernel_rfl
theorem av2 (g:FuncId) (hg:S0 g=true):Tryz.prog.inits.idxOf? g=none:=by
 have h:(l0.all λg=>Tryz.prog.inits.idxOf? g==none)=true:=by kernel_rfl
 have :=bH.1 h g (by simpa [S0] using hg);simpa using this
end
end Go.Proofs.Tryz
section
namespace Go.Proofs
open Go
theorem Rd.conv {w:World} {B K n:Nat} {A:Option Addr} {F G:Nat->Nat->Value} (h:Rd w B K A n F) (e:∀i j,i<n->j<K->F i j=G i j):Rd w B K A n G:= λhn=>by
 obtain ⟨b,o,h1,h2,h3⟩:=h hn;exact ⟨b,o,h1,h2, λi j hi hj=>by rw [h3 i j hi hj,e i j hi hj]⟩
end Go.Proofs
namespace Go.Proofs.Tryz
open Go Go.RowKit Go.ChangeShapes Go.WideShapes Go.ChangeAt Go.Conc Go.ConcM Par
theorem laid:laidOutB Tryz.prog=true:=by kernel_rfl
theorem knob:ownKnob Tryz.prog.godebug=none:=by kernel_rfl
theorem Zt:Tryz.prog.info? Tryz.prog.types.size=none:=by kernel_rfl
theorem Pz:Tryz.prog.types.all (λi=>match i.desc with | .named n _=>n != "sync.copyChecker" |_=>true)=true:=by kernel_rfl
theorem Tw (t:TypeId) (i:TypeInfo) (h:Tryz.prog.info? t=some i) (u:TypeId):i.desc≠ .named "sync.copyChecker" u:=KH Pz t i h u
theorem Xj:((begin Tryz.prog (λ_ _=>0) default).world.heap[0]?).map R3=some true:=by kernel_rfl
theorem Xk {W:World} (h:W.ShapedOpen Tryz.prog):∃o,W.heap[0]?=some o∧R3 o=true:=by
 have hlt:0<(begin Tryz.prog (λ_ _=>0) default).world.heap.size:=by
  cases hx:(begin Tryz.prog (λ_ _=>0) default).world.heap[0]? with
  |none=>have :=Xj;rw [hx] at this;cases this
  |some o=>exact (aI.1 hx).1
 obtain ⟨o,o0,h1,h2,h3⟩:=h.2 0 (by rw [QW];exact aJ _) hlt;rw [aa (by rw [QW];decide)] at h3;subst h3;have :=Xj;rw [h2] at this;exact ⟨o,h1,aU this⟩
theorem cells3:Tryz.prog.cellsOf 3=1:=by kernel_rfl
theorem yU:Tryz.prog.cellsOf 51=2:=by kernel_rfl
section
variable {H:Type} {enc:TypeId×Value->H} {W:World}
theorem el3:nE enc Tryz.prog W 3 (Tryz.prog.cellsOf 3) λ_=>EP:=by rw [cells3];exact MJ Tryz.underlying3
theorem aB0:nE enc Tryz.prog W 51 2 λ_=>EP:=vW Tryz.underlying51 λj hj=>by
 rcases j with _|_|j
 ·refine ⟨0,{ name:= "Low",type:=3,offset:=0,embedded:=false,tag:= "",pkgPath:= "",byteOffset:=0 }, λ_=>EP,rfl,?_,?_,el3, λv h=>h⟩<;>dsimp only <;>(try rw [cells3])<;>omega
 ·refine ⟨1,{ name:= "High",type:=3,offset:=1,embedded:=false,tag:= "",pkgPath:= "",byteOffset:=8 }, λ_=>EP,rfl,?_,?_,el3, λv h=>h⟩<;>dsimp only <;>(try rw [cells3])<;>omega
 ·omega
theorem Kb:nE enc Tryz.prog W 51 (Tryz.prog.cellsOf 51) λ_=>EP:=by rw [yU];exact aB0
end
theorem Xl (j:Nat) (v:Value) (h:EP v):fA v=true∧Vj v=false:=by obtain ⟨m,rfl⟩:=h;exact ⟨rfl,rfl⟩
theorem Kc {L:List Part} {W:World} {k K len cap:Nat} {A:Option Addr} {F:Nat->Nat->Value} {g:Value->Value} (hk:L[k]?=some (partOf A cap (ug len K F))) (h:KL W A len cap g (ug len K F)) (hK:0<K) (τ:Nat->Question->Nat):Rd ((wL L Tryz.prog.types.size W).tp τ) ((wL L Tryz.prog.types.size W).tp τ).heap.size K (vV (k+1) A) len F:= λhn=>by
 cases A with
 |none=>have :=h.nil rfl;omega
 |some a=>
  have hc:0<cap:=by have :=h.le;omega
  obtain ⟨hs,_⟩:=h.at_ a rfl hc;have e:partOf (some a) cap (ug len K F)=⟨a.block,a.off,(ug len K F).toArray,false⟩:=by unfold partOf;simp only;rw [aa (by omega)]
  rw [e] at hk;refine ⟨k+1,0,by unfold vV;rw [ay,hs],?_, λi j hi hj=>?_⟩
  ·show k+1<(wL L Tryz.prog.types.size W).heap.size;have :=(bg.1 hk).1;rw [yw];omega
  ·rw [Nat.zero_add,Yy hk];simpa using GY hi hj
theorem Zu {W:World} (h:W.ShapedOpen Tryz.prog) {L:List Part} {g:FuncId} (hg:S0 g=true) (hgQ:Tryz.prog.funcs[g]?=lM.funcs[g]?) (hL:∀x∈L,x.h=false->Yx L Tryz.prog.types.size W x)
 {args args':Array Value} (ha:letI:=DN L Tryz.prog.types.size;VS (FA S0 V0 (fM lM S0 V0) (Bd (aL L) (L.length+1))) args) (haa:letI:=DN L Tryz.prog.types.size;args'=args.map (rv (fL L)))
 (oD:∀τ,Calls lM g args ((wL L Tryz.prog.types.size W).tp τ) λe _=>e= .returned (.bool true)) {Post:Value->World->Prop}
 (hpost:∀W',W'.tape=W.tape->W'.output=W.output->OsLater W.os W'.os->W.heap.size<=W'.heap.size->(∀b,b<W.heap.size->W'.heap[b]?=W.heap[b]?)->Post (.bool true) W'):
 Par.Ends Tryz.prog Post (solo (G (Frame.enter Tryz.prog g args' .normal) []) W) #[]:=by
 have hW:0<W.heap.size:=by obtain ⟨o,h0,_⟩:=Xk h;exact (aI.1 h0).1
 letI:Par.Sh:=DN L Tryz.prog.types.size;exact jR.start (Vh (P:=lM) (Q:=Tryz.prog) (S:=S0) (V:=V0) (cd:=fM lM S0 V0) (L:=L) (bad:=Tryz.prog.types.size) (q:=14) (v0:=.bool true) (g:=g) (args:=args) ak0 (λf=>nL f true) (λF=>xZ true) ak3 plain0 Py ak2 ak1 QW QW Zt Tw av2 hg hgQ hW hL ha haa oD hpost) (λb hb=>hb)
end Go.Proofs.Tryz
end
