/- Part 34. -/
import Derived.Test.YtnemnkmojiljmaaGreatB02
import Derived.Test.YtnemnkmojiljmaaGreatB21
set_option maxRecDepth 100000
set_option maxHeartbeats 0
set_option linter.all false
namespace Go.Proofs.Tryz
open Go Par
attribute [local instance] noSh
def l1:List FuncId:=[58,59,60,61,65,66,89,90,91,117,121,122,135]
def S1 (g:FuncId):Bool:=l1.contains g
theorem ap1:l1.all (Jf Tryz.prog S1 S1)=true:=by kernel_rfl
theorem gK:jD Tryz.prog=true:=by kernel_rfl
theorem Oe (A:Nat->Bool):nM Tryz.prog (FA S1 S1 (fH Tryz.prog S1 S1) A):=
 Pq (λg hg=>bG.1 ap1 g (by simpa [S1] using hg)) (λ_ h=>h) A
@[reducible] noncomputable def jm:Lo.St:=⟨Tryz.f14.body.getD .skip,Tryz.f28.body.getD .skip⟩
theorem uq {P:Program} {q:FuncId} {fn:Func} {c:Code} (h:P.funcs[q]?=some fn) (hb:fn.body=some c):P.stub q c=P:=by
 unfold Program.stub
 have :(P.funcs.modify q λfn=>{ fn with body:=some c })=P.funcs:=by
  apply Array.ext_getElem?;intro i;rw [bB];split
  ·rename_i e;subst e;rw [h];show some { fn with body:=some c }=some fn;rw [<-hb]
  ·rfl
 rw [this]
theorem CG: @Lo.prog jm=Tryz.prog:=by
 rw [@Lo.jB jm];have h5:Tryz.prog.stub 14 (Tryz.f14.body.getD .skip)=Tryz.prog:=uq Tryz.func14 (by unfold Tryz.f14;rfl);have h16:Tryz.prog.stub 28 (Tryz.f28.body.getD .skip)=Tryz.prog:=uq Tryz.func28 (by unfold Tryz.f28;rfl);show (Tryz.prog.stub 14 (Tryz.f14.body.getD .skip)).stub 28 (Tryz.f28.body.getD .skip)=_;rw [h5,h16]
end Go.Proofs.Tryz
