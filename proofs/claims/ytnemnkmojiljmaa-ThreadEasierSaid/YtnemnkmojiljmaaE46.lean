/- Part 46. -/
import Derived.Test.YtnemnkmojiljmaaE44
import Derived.Test.YtnemnkmojiljmaaE45
set_option maxRecDepth 100000
set_option maxHeartbeats 8000000
set_option linter.all false
namespace Go.Proofs.Try
open Go Go.RowKit Par
attribute [local instance] noSh
@[reducible] noncomputable def OI:Lo.St:=⟨Try.c0,Try.f16.body.getD .skip⟩
noncomputable def lC:Program:=Try.prog.stub 5 Try.c0
noncomputable def UX:Func:={ Try.f5 with body:=some Try.c0 }
theorem FD:lC.funcs[5]?=some UX:=by unfold lC UX;exact Oz Try.func5 _
theorem UY: @Lo.prog OI=lC:=by
 rw [@Lo.iE OI];show (Try.prog.stub 5 Try.c0).stub 16 (Try.f16.body.getD .skip)=lC;exact rX (fn:=Try.f16) ((x8 Try.prog Try.c0 (by decide)).trans Try.func16) (by unfold Try.f16;rfl)
theorem ac3:Par.Alike lC Try.prog:=by
 refine .inr ⟨5,Try.f5.body.getD .skip,Try.c0,UX,FD,rfl,?_⟩;unfold lC;rw [Hr];exact (rX Try.func5 (by unfold Try.f5;rfl)).symm
theorem an1 (g:FuncId) (h:Try.prog.funcs[g]?≠lC.funcs[g]?):g=5:=by
 by_cases e:g=5
 ·exact e
 ·exfalso;refine h ?_
  unfold lC;exact (x8 Try.prog _ e).symm
theorem ac4:iG lC=true:=by
 unfold lC;exact Fs _ _ _ zeros
def l0:List FuncId:=[4,5,6,9,10,18,19,20,21,22,24,25,28,43,44,45,46,47,48,77,78]
def S0 (g:FuncId):Bool:=l0.contains g
def V0 (g:FuncId):Bool:=l0.contains g&&g !=5
theorem an2:l0.all (GZ lC S0 V0)=true:=by kernel_rfl
def b5:Frame:={ fn:=5,tmps:= #[],todo:=[],defers:=[],mode:=.run,kind:=.normal }
noncomputable def eB (P:Program):Frame:={ b5.at ⟨(Array.replicate 160 undef).setIfInBounds 0 (.bool true),[]⟩ [.code .ret] with mode:=.returning }
theorem UZ {P:Program} (h:P.funcs[5]?=some UX) (cs:List Frame) (w:World):runN P 5 (lone (Frame.enter P 5 #[] .normal) cs w)= .next (lone (eB P) cs w):=by
 have hn:UX.ntmps=160:=by unfold UX Try.f5;rfl
 have hb:UX.body=some Try.c0:=rfl
 have e:Frame.enter P 5 #[] .normal=b5.at ⟨Array.replicate 160 undef,[]⟩ [.code Try.c0]:=by
  simp [Frame.enter,h,hb,hn,Frame.at,b5]
 have s3:∀(T:Array Value) (ops:Array Oper),ops= #[{ dst:=some 0,op:=.assign (.const (.bool true)),type:=4,pos:= "",after:= #[],guard:=none }]->step P (lone (b5.at ⟨T,[]⟩ (.inRegion ops [0]:: [.code .ret])) cs w)= .next (lone (b5.at ⟨T.setIfInBounds 0 (.bool true),[]⟩ (.inRegion ops []:: [.code .ret])) cs w):= λT ops ho=>by
  subst ho;refine step_lone_go ?_
  rw [stepG_op (o:={ dst:=some 0,op:=.assign (.const (.bool true)),type:=4,pos:= "",after:= #[],guard:=none }) rfl rfl];simp [stepG.apply,execOp,Frame.at,b5,Frame.finish,Act.eval]
 rw [e];unfold Try.c0;simp only [runN,step_seq,step_region];rw [show List.range (#[({ dst:=some 0,op:=.assign (.const (.bool true)),type:=4,pos:= "",after:= #[],guard:=none }:Oper)]).size= [0] from rfl,s3 _ _ rfl];simp only [step_region_end,step_ret];rfl
theorem KY {P:Program} (h:P.funcs[5]?=some UX) (w:World):(eB P).leaving P w (.returned (.bool true)):=by
 refine ⟨rfl,rfl,rfl,UX,h,?_⟩;have hr:UX.results= #[.tmp 0]:=by unfold UX Try.f5;rfl
 unfold results;rw [hr];simp [eB,Frame.at]
theorem plain0:Plain lC 5 (.bool true):=by
 refine ⟨5, λc cs w hc=>?_⟩;rw [runN_add,UZ FD];show runN lC 1 (lone (eB lC) (c::cs) w)=_;simp only [runN];rw [step_leave_returned (KY FD w)]
theorem an3: @Ia OI:=by
 intro w cs;rw [UY];exact ⟨.returned (.bool true),w,eB lC,⟨rfl,rfl⟩,⟨5,UZ FD cs w⟩,rfl,KY FD w⟩
theorem ac5 [Sh] (A:Nat->Bool):l6 lC (FA S0 V0 (dL lC S0 V0) A):=
 Oo (λg hg=>aV.1 an2 g (by simpa [S0] using hg)) (λg h=>by simp only [V0,aR] at h;exact h.1) A
theorem ac6 (g:FuncId) (_:S0 g=true) (h:Try.prog.funcs[g]?≠lC.funcs[g]?):g=5∧V0 g=false:=by
 obtain rfl:=an1 g h;exact ⟨rfl,rfl⟩
theorem OJ:Try.prog.globals.size=0:=by kernel_rfl
theorem an4 (g:FuncId) (hg:S0 g=true):Try.prog.inits.idxOf? g=none:=by
 have h:(l0.all λg=>Try.prog.inits.idxOf? g==none)=true:=by kernel_rfl
 have :=aV.1 h g (by simpa [S0] using hg);simpa using this
end Go.Proofs.Try
