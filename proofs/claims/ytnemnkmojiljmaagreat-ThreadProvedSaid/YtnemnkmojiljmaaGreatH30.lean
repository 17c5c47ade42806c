/- Part 30. -/
import Derived.Test.YtnemnkmojiljmaaGreatH15
import Derived.Test.YtnemnkmojiljmaaGreatH17
set_option maxRecDepth 100000
set_option maxHeartbeats 0
set_option linter.all false
namespace Go.Proofs.Tryz
open Go Go.Conc Go.ConcN Go.ConcM Go.RowKit Go.Conc.Lib Go.ConcR.Gen Par
section
section
variable {main:Bool} {Z:fO} {own:Nat->Prop} {Stop:(Nat->Prop)->Goroutine->World->Prop}
variable {b:Frame} {a:Act} {kk:List Item} {cs:List Frame} {W:World} {ops:Array Oper} {i:Nat} {rest:List Nat} {o:Oper} {x y:Operand} {ad:Addr}
theorem nK {f:FuncId} {fn:Func} {c0:Code} {args:Array Operand} {ats:Array TypeId} (ho:ops[i]?=some o) (hw:Region.wanted o (yielded ops a.tmps)=true) (hk:b.kind≠ .early) (hop:o.op= .call { callee:=.value (.func f),args,argTypes:=ats })
 (hf:Tryz.prog.funcs[f]?=some fn) (hname:(fn.name== "runtime.NumGoroutine")=false) (hb:fn.body=some c0)
 (hn:∀W1,dM Z own W W1->Gw Tryz.prog main Z Stop own (G (Frame.enter Tryz.prog f (args.map a.eval) .normal) (b.at a (.inRegion ops (i::rest)::kk)::cs)) W1):
 Gw Tryz.prog main Z Stop own (G (b.at a (.inRegion ops (i::rest)::kk)) cs) W:=by
 have hb':fn.body.isNone=false:=by rw [hb];rfl
 refine Gw.xY rfl λW1 hr=>⟨_,W1,#[],?_,qK.refl _, λe he=>by simp at he,by rw [jB];exact hn W1 hr⟩
 rw [stepG_enter ho hw hk (run_call_body hop hf hname hb')];have :listed Tryz.prog b.fn a o W1= #[]:=by unfold listed;rw [events_call_body hop hf hname hb'];exact seen_none Tryz.prog _
 rw [this]
theorem DF {p:Option Addr} (ho:ops[i]?=some o) (hw:Region.wanted o (yielded ops a.tmps)=true) (hk:b.kind≠ .early) (hop:o.op= .load 89 x) (hx:a.eval x= .pointer (some ad)) (hnm:¬Z.mute)
 (hz:own ad.block∨Z.ro ad.block) (hc:W.cell? ad=some (.pointer p))
 (hn:∀W1,dM Z own W W1->Gw Tryz.prog main Z Stop own (G (b.at (a.put o.dst (.pointer p)) (.inRegion ops rest::kk)) cs) W1):
 Gw Tryz.prog main Z Stop own (G (b.at a (.inRegion ops (i::rest)::kk)) cs) W:=
 yB ho hw hk hnm hz hc (λW1 _ hc1=>⟨by unfold execOp;simp only [hop,hx];simp [go_sem,hc1],by unfold execOp;simp only [hop,hx];simp [go_sem,hc1]⟩) hn
theorem S9 {fn:Fn} {f1 f2:Array Value} (ho:ops[i]?=some o) (hw:Region.wanted o (yielded ops a.tmps)=true) (hk:b.kind≠ .early) (hop:o.op= .load 108 x) (hx:a.eval x= .pointer (some ad)) (hnm:¬Z.mute)
 (hz:own ad.block∨Z.ro ad.block) (hc:W.cell? ad=some (.func fn f1 f2))
 (hn:∀W1,dM Z own W W1->Gw Tryz.prog main Z Stop own (G (b.at (a.put o.dst (.func fn f1 f2)) (.inRegion ops rest::kk)) cs) W1):
 Gw Tryz.prog main Z Stop own (G (b.at a (.inRegion ops (i::rest)::kk)) cs) W:=
 yB ho hw hk hnm hz hc (λW1 _ hc1=>⟨by unfold execOp;simp only [hop,hx];simp [go_sem,hc1],by unfold execOp;simp only [hop,hx];simp [go_sem,hc1]⟩) hn
theorem Ta {n:Int} (ho:ops[i]?=some o) (hw:Region.wanted o (yielded ops a.tmps)=true) (hk:b.kind≠ .early) (hop:o.op= .load 3 x) (hx:a.eval x= .pointer (some ad)) (hnm:¬Z.mute)
 (hz:own ad.block∨Z.ro ad.block) (hc:W.cell? ad=some (.int .i64 n))
 (hn:∀W1,dM Z own W W1->Gw Tryz.prog main Z Stop own (G (b.at (a.put o.dst (.int .i64 n)) (.inRegion ops rest::kk)) cs) W1):
 Gw Tryz.prog main Z Stop own (G (b.at a (.inRegion ops (i::rest)::kk)) cs) W:=
 yB ho hw hk hnm hz hc (λW1 _ hc1=>⟨by unfold execOp;simp only [hop,hx];simp [go_sem,hc1],by unfold execOp;simp only [hop,hx];simp [go_sem,hc1]⟩) hn
theorem nD {n:Bool} (ho:ops[i]?=some o) (hw:Region.wanted o (yielded ops a.tmps)=true) (hk:b.kind≠ .early) (hop:o.op= .load 4 x) (hx:a.eval x= .pointer (some ad)) (hnm:¬Z.mute)
 (hz:own ad.block∨Z.ro ad.block) (hc:W.cell? ad=some (.bool n))
 (hn:∀W1,dM Z own W W1->Gw Tryz.prog main Z Stop own (G (b.at (a.put o.dst (.bool n)) (.inRegion ops rest::kk)) cs) W1):
 Gw Tryz.prog main Z Stop own (G (b.at a (.inRegion ops (i::rest)::kk)) cs) W:=
 yB ho hw hk hnm hz hc (λW1 _ hc1=>⟨by unfold execOp;simp only [hop,hx];simp [go_sem,hc1],by unfold execOp;simp only [hop,hx];simp [go_sem,hc1]⟩) hn
theorem VF {p:Option Addr} {l c:Nat} (ho:ops[i]?=some o) (hw:Region.wanted o (yielded ops a.tmps)=true) (hk:b.kind≠ .early) (hop:o.op= .load 44 x) (hx:a.eval x= .pointer (some ad)) (hnm:¬Z.mute)
 (hz:own ad.block∨Z.ro ad.block) (hc:W.cell? ad=some (.slice p l c))
 (hn:∀W1,dM Z own W W1->Gw Tryz.prog main Z Stop own (G (b.at (a.put o.dst (.slice p l c)) (.inRegion ops rest::kk)) cs) W1):
 Gw Tryz.prog main Z Stop own (G (b.at a (.inRegion ops (i::rest)::kk)) cs) W:=
 yB ho hw hk hnm hz hc (λW1 _ hc1=>⟨by unfold execOp;simp only [hop,hx];simp [go_sem,hc1],by unfold execOp;simp only [hop,hx];simp [go_sem,hc1]⟩) hn
theorem M7 {p:Option Addr} {l c:Nat} {v0:Value} (ho:ops[i]?=some o) (hw:Region.wanted o (yielded ops a.tmps)=true) (hk:b.kind≠ .early) (hop:o.op= .store 44 x y) (hx:a.eval x= .pointer (some ad)) (hy:a.eval y= .slice p l c) (hnm:¬Z.mute)
 (hz:own ad.block) (hns:¬Z.sy ad.block) (hc:W.cell? ad=some v0) (hf:W.frozen? ad=false)
 (hn:∀W1,dM Z own W W1->Gw Tryz.prog main Z Stop own (G (b.at (a.put o.dst undef) (.inRegion ops rest::kk)) cs) (W1.setCell ad (.slice p l c))):
 Gw Tryz.prog main Z Stop own (G (b.at a (.inRegion ops (i::rest)::kk)) cs) W:=
 yC ho hw hk hnm hz hns (λW1 hr=>by
  have hb:=hr.own _ hz;have hc1:W1.cell? ad=some v0:=by rw [<-hc];unfold World.cell?;rw [hb]
  have hf1:W1.frozen? ad=false:=by rw [<-hf];unfold World.frozen?;rw [hb]
  exact ⟨by unfold execOp;simp only [hop,hx,hy];simp [go_sem,hc1,hf1],by unfold execOp;simp only [hop,hx,hy];simp [go_sem,hc1,hf1];rw [Go.events_store _ _ _ _ _ _ rfl];simp [hc1,hf1]⟩) hn
theorem r9 {n:Bool} {v0:Value} (ho:ops[i]?=some o) (hw:Region.wanted o (yielded ops a.tmps)=true) (hk:b.kind≠ .early) (hop:o.op= .store 4 x y) (hx:a.eval x= .pointer (some ad)) (hy:a.eval y= .bool n) (hnm:¬Z.mute)
 (hz:own ad.block) (hns:¬Z.sy ad.block) (hc:W.cell? ad=some v0) (hf:W.frozen? ad=false)
 (hn:∀W1,dM Z own W W1->Gw Tryz.prog main Z Stop own (G (b.at (a.put o.dst undef) (.inRegion ops rest::kk)) cs) (W1.setCell ad (.bool n))):
 Gw Tryz.prog main Z Stop own (G (b.at a (.inRegion ops (i::rest)::kk)) cs) W:=
 yC ho hw hk hnm hz hns (λW1 hr=>by
  have hb:=hr.own _ hz;have hc1:W1.cell? ad=some v0:=by rw [<-hc];unfold World.cell?;rw [hb]
  have hf1:W1.frozen? ad=false:=by rw [<-hf];unfold World.frozen?;rw [hb]
  exact ⟨by unfold execOp;simp only [hop,hx,hy];simp [go_sem,hc1,hf1],by unfold execOp;simp only [hop,hx,hy];simp [go_sem,hc1,hf1];rw [Go.events_store _ _ _ _ _ _ rfl];simp [hc1,hf1]⟩) hn
end
end
end Go.Proofs.Tryz
section

end
namespace Go.Proofs.Tryz
open Go Par
section
attribute [local instance] noSh
def l1:List FuncId:=[58,59,60,61,65,66,89,90,91,117,121,122,135]
def S1 (g:FuncId):Bool:=l1.contains g
theorem aj2:l1.all (EK Tryz.prog S1 S1)=true:=by kernel_rfl
theorem gD:iA Tryz.prog=true:=by kernel_rfl
theorem Lr (A:Nat->Bool):kL Tryz.prog (FA S1 S1 (fe Tryz.prog S1 S1) A):=
 Mr (λg hg=>bF.1 aj2 g (by simpa [S1] using hg)) (λ_ h=>h) A
@[reducible] noncomputable def gX:Lo.St:=⟨Tryz.f14.body.getD .skip,Tryz.f28.body.getD .skip⟩
theorem oO {P:Program} {q:FuncId} {fn:Func} {c:Code} (h:P.funcs[q]?=some fn) (hb:fn.body=some c):P.stub q c=P:=by
 unfold Program.stub
 have :(P.funcs.modify q λfn=>{ fn with body:=some c })=P.funcs:=by
  apply Array.ext_getElem?;intro i;rw [bz];split
  ·rename_i e;subst e;rw [h];show some { fn with body:=some c }=some fn;rw [<-hb]
  ·rfl
 rw [this]
theorem zf: @Lo.prog gX=Tryz.prog:=by
 rw [@Lo.iB gX];have h5:Tryz.prog.stub 14 (Tryz.f14.body.getD .skip)=Tryz.prog:=oO Tryz.func14 (by unfold Tryz.f14;rfl);have h16:Tryz.prog.stub 28 (Tryz.f28.body.getD .skip)=Tryz.prog:=oO Tryz.func28 (by unfold Tryz.f28;rfl);show (Tryz.prog.stub 14 (Tryz.f14.body.getD .skip)).stub 28 (Tryz.f28.body.getD .skip)=_;rw [h5,h16]
end
end Go.Proofs.Tryz
