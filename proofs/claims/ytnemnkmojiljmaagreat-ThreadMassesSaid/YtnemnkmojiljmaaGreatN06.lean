/- Part 6. -/
import Derived.Test.YtnemnkmojiljmaaGreatH34
set_option maxRecDepth 100000
set_option maxHeartbeats 0
set_option linter.all false
namespace Go.Proofs.Tryz
open Go Go.RowKit Go.ChangeShapes Go.WideShapes Go.ChangeAt Go.Conc Go.ConcM Par
def ρo:List FuncId:=l0++ [3,4,16,19,21,23,25,44,45,46,80,81,82]
def Smore (g:FuncId):Bool:=ρo.contains g
def Vmore (g:FuncId):Bool:=ρo.contains g&&g !=14
theorem lookM:ρo.all (EK jY Smore Vmore)=true:=by kernel_rfl
theorem good_M [Par.Sh] (A:Nat->Bool):kL jY (FA Smore Vmore (fe jY Smore Vmore) A):=
 Mr (λg hg=>List.all_eq_true.1 lookM g (by simpa [Smore] using hg)) (λg h=>by simp only [Vmore,Bool.and_eq_true] at h;exact h.1) A
theorem haltsM (g:FuncId) (_:Smore g=true) (h:Tryz.prog.funcs[g]?≠jY.funcs[g]?):g=14∧Vmore g=false:=by
 obtain rfl:=al0 g h;exact ⟨rfl,rfl⟩
theorem mainM (g:FuncId) (hg:Smore g=true):Tryz.prog.inits.idxOf? g=none:=by
 have h:(ρo.all λg=>Tryz.prog.inits.idxOf? g==none)=true:=by kernel_rfl
 have :=List.all_eq_true.1 h g (by simpa [Smore] using hg);simpa using this
theorem run_lawM {W:World} (h:W.ShapedOpen Tryz.prog) {L:List Part} {g:FuncId} (hg:Smore g=true) (XI:Tryz.prog.funcs[g]?=jY.funcs[g]?) (hL:∀x∈L,x.h=false->U9 L Tryz.prog.types.size W x)
 {args args':Array Value} (ha:letI:=zi L Tryz.prog.types.size;VS (FA Smore Vmore (fe jY Smore Vmore) (Bd (aL L) (L.length+1))) args) (XJ:letI:=zi L Tryz.prog.types.size;args'=args.map (rv (fL L)))
 (kS:∀τ,Calls jY g args ((wL L Tryz.prog.types.size W).tp τ) λe _=>e= .returned (.bool true)) {Post:Value->World->Prop}
 (hpost:∀W',W'.tape=W.tape->W'.output=W.output->OsLater W.os W'.os->W.heap.size<=W'.heap.size->(∀b,b<W.heap.size->W'.heap[b]?=W.heap[b]?)->Post (.bool true) W'):
 Par.Ends Tryz.prog Post (solo (G (Frame.enter Tryz.prog g args' .normal) []) W) #[]:=by
 have hW:0<W.heap.size:=by obtain ⟨o,h0,_⟩:=ZK h;exact (Array.getElem?_eq_some_iff.1 h0).1
 letI:Par.Sh:=zi L Tryz.prog.types.size;exact iF.start (Rc (P:=jY) (Q:=Tryz.prog) (S:=Smore) (V:=Vmore) (cd:=fe jY Smore Vmore) (L:=L) (bad:=Tryz.prog.types.size) (q:=14) (v0:=.bool true) (g:=g) (args:=args) ZG (λf=>jZ f true) (λF=>sw true) haltsM plain0 LH good_M ZH NC NC V9 PI mainM hg XI hW hL ha XJ kS hpost) (λb hb=>hb)
end Go.Proofs.Tryz
