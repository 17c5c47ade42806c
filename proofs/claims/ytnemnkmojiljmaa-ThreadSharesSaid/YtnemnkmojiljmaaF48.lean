/- Part 48. -/
import Derived.Test.YtnemnkmojiljmaaF21
import Derived.Test.YtnemnkmojiljmaaF47
set_option maxRecDepth 100000
set_option maxHeartbeats 8000000
set_option linter.all false
namespace Go.Proofs.Try
open Go Go.RowKit Par
attribute [local instance] noSh
@[reducible] noncomputable def OM:Lo.St:=⟨Try.c0,Try.f16.body.getD .skip⟩
noncomputable def jR:Program:=Try.prog.stub 5 Try.c0
noncomputable def UT:Func:={ Try.f5 with body:=some Try.c0 }
theorem FJ:jR.funcs[5]?=some UT:=by unfold jR UT;exact OC Try.func5 _
theorem UU: @Lo.prog OM=jR:=by
 rw [@Lo.iD OM];show (Try.prog.stub 5 Try.c0).stub 16 (Try.f16.body.getD .skip)=jR;exact rV (fn:=Try.f16) ((vL Try.prog Try.c0 (by decide)).trans Try.func16) (by unfold Try.f16;rfl)
theorem ac3:Par.Alike jR Try.prog:=by
 refine .inr ⟨5,Try.f5.body.getD .skip,Try.c0,UT,FJ,rfl,?_⟩;unfold jR;rw [Ia];exact (rV Try.func5 (by unfold Try.f5;rfl)).symm
theorem an0 (g:FuncId) (h:Try.prog.funcs[g]?≠jR.funcs[g]?):g=5:=by
 by_cases e:g=5
 ·exact e
 ·exfalso;refine h ?_
  unfold jR;exact (vL Try.prog _ e).symm
theorem ac4:iF jR=true:=by
 unfold jR;exact Fz _ _ _ zeros
def l0:List FuncId:=[4,5,6,9,10,18,19,20,21,22,24,25,28,43,44,45,46,47,48,77,78]
def S0 (g:FuncId):Bool:=l0.contains g
def b5:Frame:={ fn:=5,tmps:= #[],todo:=[],defers:=[],mode:=.run,kind:=.normal }
noncomputable def eF (P:Program):Frame:={ b5.at ⟨(Array.replicate 160 undef).setIfInBounds 0 (.bool true),[]⟩ [.code .ret] with mode:=.returning }
theorem UW {P:Program} (h:P.funcs[5]?=some UT) (cs:List Frame) (w:World):runN P 5 (lone (Frame.enter P 5 #[] .normal) cs w)= .next (lone (eF P) cs w):=by
 have hn:UT.ntmps=160:=by unfold UT Try.f5;rfl
 have hb:UT.body=some Try.c0:=rfl
 have e:Frame.enter P 5 #[] .normal=b5.at ⟨Array.replicate 160 undef,[]⟩ [.code Try.c0]:=by
  simp [Frame.enter,h,hb,hn,Frame.at,b5]
 have s3:∀(T:Array Value) (ops:Array Oper),ops= #[{ dst:=some 0,op:=.assign (.const (.bool true)),type:=4,pos:= "",after:= #[],guard:=none }]->step P (lone (b5.at ⟨T,[]⟩ (.inRegion ops [0]:: [.code .ret])) cs w)= .next (lone (b5.at ⟨T.setIfInBounds 0 (.bool true),[]⟩ (.inRegion ops []:: [.code .ret])) cs w):= λT ops ho=>by
  subst ho;refine step_lone_go ?_
  rw [stepG_op (o:={ dst:=some 0,op:=.assign (.const (.bool true)),type:=4,pos:= "",after:= #[],guard:=none }) rfl rfl];simp [stepG.apply,execOp,Frame.at,b5,Frame.finish,Act.eval]
 rw [e];unfold Try.c0;simp only [runN,step_seq,step_region];rw [show List.range (#[({ dst:=some 0,op:=.assign (.const (.bool true)),type:=4,pos:= "",after:= #[],guard:=none }:Oper)]).size= [0] from rfl,s3 _ _ rfl];simp only [step_region_end,step_ret];rfl
theorem K4 {P:Program} (h:P.funcs[5]?=some UT) (w:World):(eF P).leaving P w (.returned (.bool true)):=by
 refine ⟨rfl,rfl,rfl,UT,h,?_⟩;have hr:UT.results= #[.tmp 0]:=by unfold UT Try.f5;rfl
 unfold results;rw [hr];simp [eF,Frame.at]
theorem plain0:Plain jR 5 (.bool true):=by
 refine ⟨5, λc cs w hc=>?_⟩;rw [runN_add,UW FJ];show runN jR 1 (lone (eF jR) (c::cs) w)=_;simp only [runN];rw [step_leave_returned (K4 FJ w)]
theorem an1: @KH OM:=by
 intro w cs;rw [UU];exact ⟨.returned (.bool true),w,eF jR,⟨rfl,rfl⟩,⟨5,UW FJ cs w⟩,rfl,K4 FJ w⟩
theorem OO:Try.prog.globals.size=0:=by kernel_rfl
end Go.Proofs.Try
