/- Part 46. -/
import Derived.Test.YtnemnkmojiljmaaGreatB44
import Derived.Test.YtnemnkmojiljmaaGreatB45
set_option maxRecDepth 100000
set_option maxHeartbeats 0
set_option linter.all false
namespace Go.Proofs.Tryz
open Go Go.RowKit Par
attribute [local instance] noSh
@[reducible] noncomputable def PT:Lo.St:=⟨Tryz.c0,Tryz.f28.body.getD .skip⟩
noncomputable def lD:Program:=Tryz.prog.stub 14 Tryz.c0
noncomputable def VI:Func:={ Tryz.f14 with body:=some Tryz.c0 }
theorem G7:lD.funcs[14]?=some VI:=by unfold lD VI;exact PG Tryz.func14 _
theorem VJ: @Lo.prog PT=lD:=by
 rw [@Lo.jB PT];show (Tryz.prog.stub 14 Tryz.c0).stub 28 (Tryz.f28.body.getD .skip)=lD;exact uq (fn:=Tryz.f28) ((zo Tryz.prog Tryz.c0 (by decide)).trans Tryz.func28) (by unfold Tryz.f28;rfl)
theorem ah2:Par.Alike lD Tryz.prog:=by
 refine .inr ⟨14,Tryz.f14.body.getD .skip,Tryz.c0,VI,G7,rfl,?_⟩;unfold lD;rw [Jr];exact (uq Tryz.func14 (by unfold Tryz.f14;rfl)).symm
theorem ar2 (g:FuncId) (h:Tryz.prog.funcs[g]?≠lD.funcs[g]?):g=14:=by
 by_cases e:g=14
 ·exact e
 ·exfalso;refine h ?_
  unfold lD;exact (zo Tryz.prog _ e).symm
theorem ah3:jD lD=true:=by
 unfold lD;exact GR _ _ _ gK
def l0:List FuncId:=[10,31,36,37,14,35,34,30,71,72,73,74,75,54,55,49,112,113,50,114,115,116,132,133]
def S0 (g:FuncId):Bool:=l0.contains g
def V0 (g:FuncId):Bool:=l0.contains g&&g !=14
theorem ar3:l0.all (Jf lD S0 V0)=true:=by kernel_rfl
def b5:Frame:={ fn:=14,tmps:= #[],todo:=[],defers:=[],mode:=.run,kind:=.normal }
noncomputable def gz (P:Program):Frame:={ b5.at ⟨(Array.replicate 160 undef).setIfInBounds 0 (.bool true),[]⟩ [.code .ret] with mode:=.returning }
theorem VK {P:Program} (h:P.funcs[14]?=some VI) (cs:List Frame) (w:World):runN P 5 (lone (Frame.enter P 14 #[] .normal) cs w)= .next (lone (gz P) cs w):=by
 have hn:VI.ntmps=160:=by unfold VI Tryz.f14;rfl
 have hb:VI.body=some Tryz.c0:=rfl
 have e:Frame.enter P 14 #[] .normal=b5.at ⟨Array.replicate 160 undef,[]⟩ [.code Tryz.c0]:=by
  simp [Frame.enter,h,hb,hn,Frame.at,b5]
 have s3:∀(T:Array Value) (ops:Array Oper),ops= #[{ dst:=some 0,op:=.assign (.const (.bool true)),type:=4,pos:= "",after:= #[],guard:=none }]->step P (lone (b5.at ⟨T,[]⟩ (.inRegion ops [0]:: [.code .ret])) cs w)= .next (lone (b5.at ⟨T.setIfInBounds 0 (.bool true),[]⟩ (.inRegion ops []:: [.code .ret])) cs w):= λT ops ho=>by
  subst ho;refine step_lone_go ?_
  rw [stepG_op (o:={ dst:=some 0,op:=.assign (.const (.bool true)),type:=4,pos:= "",after:= #[],guard:=none }) rfl rfl];simp [stepG.apply,execOp,Frame.at,b5,Frame.finish,Act.eval]
 rw [e];unfold Tryz.c0;simp only [runN,step_seq,step_region];rw [show List.range (#[({ dst:=some 0,op:=.assign (.const (.bool true)),type:=4,pos:= "",after:= #[],guard:=none }:Oper)]).size= [0] from rfl,s3 _ _ rfl];simp only [step_region_end,step_ret];rfl
theorem MB {P:Program} (h:P.funcs[14]?=some VI) (w:World):(gz P).leaving P w (.returned (.bool true)):=by
 refine ⟨rfl,rfl,rfl,VI,h,?_⟩;have hr:VI.results= #[.tmp 0]:=by unfold VI Tryz.f14;rfl
 unfold results;rw [hr];simp [gz,Frame.at]
theorem plain0:Plain lD 14 (.bool true):=by
 refine ⟨5, λc cs w hc=>?_⟩;rw [runN_add,VK G7];show runN lD 1 (lone (gz lD) (c::cs) w)=_;simp only [runN];rw [step_leave_returned (MB G7 w)]
theorem Zl: @VH PT:=by
 intro w cs;rw [VJ];exact ⟨.returned (.bool true),w,gz lD,⟨rfl,rfl⟩,⟨5,VK G7 cs w⟩,rfl,MB G7 w⟩
theorem ah4 [Sh] (A:Nat->Bool):nM lD (FA S0 V0 (fH lD S0 V0) A):=
 Pq (λg hg=>bG.1 ar3 g (by simpa [S0] using hg)) (λg h=>by simp only [V0,bC] at h;exact h.1) A
theorem ah5 (g:FuncId) (_:S0 g=true) (h:Tryz.prog.funcs[g]?≠lD.funcs[g]?):g=14∧V0 g=false:=by
 obtain rfl:=ar2 g h;exact ⟨rfl,rfl⟩
theorem PU:Tryz.prog.globals.size=0:=by kernel_rfl
theorem ar4 (g:FuncId) (hg:S0 g=true):Tryz.prog.inits.idxOf? g=none:=by
 have h:(l0.all λg=>Tryz.prog.inits.idxOf? g==none)=true:=by kernel_rfl
 have :=bG.1 h g (by simpa [S0] using hg);simpa using this
end Go.Proofs.Tryz
