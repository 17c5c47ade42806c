/- Part 37. -/
import Derived.Test.YtnemnkmojiljmaaF02
import Derived.Test.YtnemnkmojiljmaaF24
set_option maxRecDepth 100000
set_option maxHeartbeats 8000000
set_option linter.all false
namespace Go.Proofs.Try
open Go Par
attribute [local instance] noSh
def l1:List FuncId:=[31,32,33,34,38,39,54,55,56,81,82,83,96]
def S1 (g:FuncId):Bool:=l1.contains g
theorem ak9:l1.all (He Try.prog S1 S1)=true:=by kernel_rfl
theorem zeros:iF Try.prog=true:=by kernel_rfl
theorem Nf (A:Nat->Bool):lY Try.prog (FA S1 S1 (dM Try.prog S1 S1) A):=
 Ou (λg hg=>aV.1 ak9 g (by simpa [S1] using hg)) (λ_ h=>h) A
@[reducible] noncomputable def ig:Lo.St:=⟨Try.f5.body.getD .skip,Try.f16.body.getD .skip⟩
theorem rV {P:Program} {q:FuncId} {fn:Func} {c:Code} (h:P.funcs[q]?=some fn) (hb:fn.body=some c):P.stub q c=P:=by
 unfold Program.stub
 have :(P.funcs.modify q λfn=>{ fn with body:=some c })=P.funcs:=by
  apply Array.ext_getElem?;intro i;rw [aQ];split
  ·rename_i e;subst e;rw [h];show some { fn with body:=some c }=some fn;rw [<-hb]
  ·rfl
 rw [this]
theorem Bl: @Lo.prog ig=Try.prog:=by
 rw [@Lo.iD ig];have h5:Try.prog.stub 5 (Try.f5.body.getD .skip)=Try.prog:=rV Try.func5 (by unfold Try.f5;rfl);have h16:Try.prog.stub 16 (Try.f16.body.getD .skip)=Try.prog:=rV Try.func16 (by unfold Try.f16;rfl);show (Try.prog.stub 5 (Try.f5.body.getD .skip)).stub 16 (Try.f16.body.getD .skip)=_;rw [h5,h16]
end Go.Proofs.Try
