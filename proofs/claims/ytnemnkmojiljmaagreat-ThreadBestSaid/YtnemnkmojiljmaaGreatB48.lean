/- Part 48. -/
import Derived.Test.YtnemnkmojiljmaaGreatRows
import Derived.Test.YtnemnkmojiljmaaGreatB46
import Derived.Test.YtnemnkmojiljmaaGreatB47
set_option maxRecDepth 100000
set_option maxHeartbeats 0
set_option linter.all false
namespace Go.Proofs
open Go
theorem Rd.conv {w:World} {B K n:Nat} {A:Option Addr} {F G:Nat->Nat->Value} (h:Rd w B K A n F) (e:∀i j,i<n->j<K->F i j=G i j):Rd w B K A n G:= λhn=>by
 obtain ⟨b,o,h1,h2,h3⟩:=h hn;exact ⟨b,o,h1,h2, λi j hi hj=>by rw [h3 i j hi hj,e i j hi hj]⟩
end Go.Proofs
namespace Go.Proofs.Tryz
open Go Go.RowKit Go.ChangeShapes Go.WideShapes Go.ChangeAt Go.Conc Go.ConcM Par
theorem laid:laidOutB Tryz.prog=true:=by kernel_rfl
theorem knob:ownKnob Tryz.prog.godebug=none:=by kernel_rfl
theorem Yq:Tryz.prog.info? Tryz.prog.types.size=none:=by kernel_rfl
theorem Ow:Tryz.prog.types.all (λi=>match i.desc with | .named n _=>n != "sync.copyChecker" |_=>true)=true:=by kernel_rfl
theorem RL (t:TypeId) (i:TypeInfo) (h:Tryz.prog.info? t=some i) (u:TypeId):i.desc≠ .named "sync.copyChecker" u:=Kj Ow t i h u
theorem VT:((begin Tryz.prog (λ_ _=>0) default).world.heap[0]?).map Yp=some true:=by kernel_rfl
theorem VU {W:World} (h:W.ShapedOpen Tryz.prog):∃o,W.heap[0]?=some o∧Yp o=true:=by
 have hlt:0<(begin Tryz.prog (λ_ _=>0) default).world.heap.size:=by
  cases hx:(begin Tryz.prog (λ_ _=>0) default).world.heap[0]? with
  |none=>have :=VT;rw [hx] at this;cases this
  |some o=>exact (aI.1 hx).1
 obtain ⟨o,o0,h1,h2,h3⟩:=h.2 0 (by rw [PU];exact aJ _) hlt;rw [aa (by rw [PU];decide)] at h3;subst h3;have :=VT;rw [h2] at this;exact ⟨o,h1,aU this⟩
theorem cells3:Tryz.prog.cellsOf 3=1:=by kernel_rfl
theorem EN:Tryz.prog.cellsOf 51=2:=by kernel_rfl
theorem Yr:Tryz.prog.cellsOf 80=3:=by kernel_rfl
theorem Yt:Tryz.prog.cellsOf 42=1:=by kernel_rfl
section
variable {H:Type} {enc:TypeId×Value->H} {W:World}
theorem el3:wh enc Tryz.prog W 3 (Tryz.prog.cellsOf 3) λ_=>VN:=by rw [cells3];exact VO Tryz.underlying3
theorem ar6:wh enc Tryz.prog W 51 2 λ_=>VN:=Er Tryz.underlying51 λj hj=>by
 rcases j with _|_|j
 ·refine ⟨0,{ name:= "Low",type:=3,offset:=0,embedded:=false,tag:= "",pkgPath:= "",byteOffset:=0 }, λ_=>VN,rfl,?_,?_,el3, λv h=>h⟩<;>dsimp only <;>(try rw [cells3])<;>omega
 ·refine ⟨1,{ name:= "High",type:=3,offset:=1,embedded:=false,tag:= "",pkgPath:= "",byteOffset:=8 }, λ_=>VN,rfl,?_,?_,el3, λv h=>h⟩<;>dsimp only <;>(try rw [cells3])<;>omega
 ·omega
theorem Zm:wh enc Tryz.prog W 51 (Tryz.prog.cellsOf 51) λ_=>VN:=by rw [EN];exact ar6
theorem ay2:wh enc Tryz.prog W 80 3 λ_=>VN:=Er Tryz.underlying80 λj hj=>by
 rcases j with _|_|_|j
 ·refine ⟨0,{ name:= "Pace",type:=3,offset:=0,embedded:=false,tag:= "",pkgPath:= "",byteOffset:=0 }, λ_=>VN,rfl,?_,?_,el3, λv h=>h⟩<;>dsimp only <;>(try rw [cells3])<;>omega
 ·refine ⟨1,{ name:= "Errs",type:=51,offset:=1,embedded:=false,tag:= "",pkgPath:= "",byteOffset:=8 }, λ_=>VN,rfl,?_,?_,Zm, λv h=>h⟩<;>dsimp only <;>(try rw [EN])<;>omega
 ·refine ⟨1,{ name:= "Errs",type:=51,offset:=1,embedded:=false,tag:= "",pkgPath:= "",byteOffset:=8 }, λ_=>VN,rfl,?_,?_,Zm, λv h=>h⟩<;>dsimp only <;>(try rw [EN])<;>omega
 ·omega
theorem ay3:wh enc Tryz.prog W 42 1 λ_=>IsK .u16:=ah6 Tryz.underlying42
end
theorem VV (j:Nat) (v:Value) (h:VN v):fA v=true∧VP v=false:=by obtain ⟨m,rfl⟩:=h;exact ⟨rfl,rfl⟩
theorem ah7 (j:Nat) (v:Value) (h:IsK .u16 v):fA v=true∧VP v=false:=by obtain ⟨m,rfl,_⟩:=h;exact ⟨rfl,rfl⟩
theorem VW {L:List Part} {W:World} {k K len cap:Nat} {A:Option Addr} {F:Nat->Nat->Value} {g:Value->Value} (hk:L[k]?=some (partOf A cap (ym len K F))) (h:Ov W A len cap g (ym len K F)) (hK:0<K) (τ:Nat->Question->Nat):Rd ((wL L Tryz.prog.types.size W).tp τ) ((wL L Tryz.prog.types.size W).tp τ).heap.size K (He (k+1) A) len F:= λhn=>by
 cases A with
 |none=>have :=h.nil rfl;omega
 |some a=>
  have hc:0<cap:=by have :=h.le;omega
  obtain ⟨hs,_⟩:=h.at_ a rfl hc;have e:partOf (some a) cap (ym len K F)=⟨a.block,a.off,(ym len K F).toArray,false⟩:=by unfold partOf;simp only;rw [aa (by omega)]
  rw [e] at hk;refine ⟨k+1,0,by unfold He;rw [ay,hs],?_, λi j hi hj=>?_⟩
  ·show k+1<(wL L Tryz.prog.types.size W).heap.size;have :=(aZ.1 hk).1;rw [yl];omega
  ·rw [Nat.zero_add,Yo hk];simpa using Hl hi hj
theorem Yu {W:World} (h:W.ShapedOpen Tryz.prog) {L:List Part} {g:FuncId} (hg:S0 g=true) (hgQ:Tryz.prog.funcs[g]?=lD.funcs[g]?) (hL:∀x∈L,x.h=false->Yn L Tryz.prog.types.size W x)
 {args args':Array Value} (ha:letI:=EM L Tryz.prog.types.size;VS (FA S0 V0 (fH lD S0 V0) (Bd (aL L) (L.length+1))) args) (haa:letI:=EM L Tryz.prog.types.size;args'=args.map (rv (fL L)))
 (nS:∀τ,Calls lD g args ((wL L Tryz.prog.types.size W).tp τ) λe _=>e= .returned (.bool true)) {Post:Value->World->Prop}
 (hpost:∀W',W'.tape=W.tape->W'.output=W.output->OsLater W.os W'.os->W.heap.size<=W'.heap.size->(∀b,b<W.heap.size->W'.heap[b]?=W.heap[b]?)->Post (.bool true) W'):
 Par.Ends Tryz.prog Post (solo (G (Frame.enter Tryz.prog g args' .normal) []) W) #[]:=by
 have hW:0<W.heap.size:=by obtain ⟨o,h0,_⟩:=VU h;exact (aI.1 h0).1
 letI:Par.Sh:=EM L Tryz.prog.types.size;exact jK.start (VM (P:=lD) (Q:=Tryz.prog) (S:=S0) (V:=V0) (cd:=fH lD S0 V0) (L:=L) (bad:=Tryz.prog.types.size) (q:=14) (v0:=.bool true) (g:=g) (args:=args) ah2 (λf=>mZ f true) (λF=>xy true) ah5 plain0 Ou ah4 ah3 PU PU Yq RL ar4 hg hgQ hW hL ha haa nS hpost) (λb hb=>hb)
end Go.Proofs.Tryz
