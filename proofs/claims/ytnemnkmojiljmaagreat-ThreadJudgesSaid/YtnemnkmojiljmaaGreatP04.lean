/- ThreadJudges answers true, whatever comes in, on every schedule; its arguments as they were: no condition of its own beside the row. -/
import Derived.Test.YtnemnkmojiljmaaGreatH34
import Derived.Test.YtnemnkmojiljmaaGreatP03
set_option maxRecDepth 100000
set_option maxHeartbeats 0
set_option linter.all false
section
namespace Go.Proofs.Tryz
open Go Go.RowKit Go.ChangeShapes Go.WideShapes Go.ChangeAt Go.Conc Go.ConcM Par
def ρo:List FuncId:=l0++ [3,4,16,19,21,23,25,44,45,46,80,81,82]
def Smore (g:FuncId):Bool:=ρo.contains g
def Vmore (g:FuncId):Bool:=ρo.contains g&&g !=14
theorem lookM:ρo.all (EK jY Smore Vmore)=true:=by kernel_rfl
theorem good_M [Par.Sh] (A:Nat->Bool):kL jY (FA Smore Vmore (fe jY Smore Vmore) A):=
 Mr (λg hg=>List.all_eq_true.1 lookM g (by simpa [Smore] using hg)) (λg h=>by simp only [Vmore,Bool.and_eq_true] at h;exact h.1) A
theorem haltsM (g:FuncId) (_:Smore g=true) (h:Tryz.prog.funcs[g]?≠jY.funcs[g]?):g=14∧Vmore g=false:=by
 obtain rfl:=al0 g h;exact ⟨rfl,rfl⟩
theorem mainM (g:FuncId) (hg:Smore g=true):Tryz.prog.inits.idxOf? g=none:=by
 have h:(ρo.all λg=>Tryz.prog.inits.idxOf? g==none)=true:=by kernel_rfl
 have :=List.all_eq_true.1 h g (by simpa [Smore] using hg);simpa using this
theorem run_lawM {W:World} (h:W.ShapedOpen Tryz.prog) {L:List Part} {g:FuncId} (hg:Smore g=true) (XI:Tryz.prog.funcs[g]?=jY.funcs[g]?) (hL:∀x∈L,x.h=false->U9 L Tryz.prog.types.size W x)
 {args args':Array Value} (ha:letI:=zi L Tryz.prog.types.size;VS (FA Smore Vmore (fe jY Smore Vmore) (Bd (aL L) (L.length+1))) args) (XJ:letI:=zi L Tryz.prog.types.size;args'=args.map (rv (fL L)))
 (kS:∀τ,Calls jY g args ((wL L Tryz.prog.types.size W).tp τ) λe _=>e= .returned (.bool true)) {Post:Value->World->Prop}
 (hpost:∀W',W'.tape=W.tape->W'.output=W.output->OsLater W.os W'.os->W.heap.size<=W'.heap.size->(∀b,b<W.heap.size->W'.heap[b]?=W.heap[b]?)->Post (.bool true) W'):
 Par.Ends Tryz.prog Post (solo (G (Frame.enter Tryz.prog g args' .normal) []) W) #[]:=by
 have hW:0<W.heap.size:=by obtain ⟨o,h0,_⟩:=ZK h;exact (Array.getElem?_eq_some_iff.1 h0).1
 letI:Par.Sh:=zi L Tryz.prog.types.size;exact iF.start (Rc (P:=jY) (Q:=Tryz.prog) (S:=Smore) (V:=Vmore) (cd:=fe jY Smore Vmore) (L:=L) (bad:=Tryz.prog.types.size) (q:=14) (v0:=.bool true) (g:=g) (args:=args) ZG (λf=>jZ f true) (λF=>sw true) haltsM plain0 LH good_M ZH NC NC V9 PI mainM hg XI hW hL ha XJ kS hpost) (λb hb=>hb)
end Go.Proofs.Tryz
end
section
namespace Go.Proofs.YtnemnkmojiljmaaGreat
open Go Go.RowKit Go.ChangeShapes Go.WideShapes Go.ChangeAt Go.Conc Go.ConcM Par Go.Proofs.Tryz
theorem judge_lone {w:World} {B:Nat} {b:dO} {v:gJ} {lm:Int} (hb:fC w B b v) (hB:B<=w.heap.size) (hc:GG b v):
 Calls jY 4 #[dY b v,.int .i64 lm] w λe _=>e= .returned (.bool true):=by
 rw [<-ZF];letI:=TP;exact Lo.tjudge_any as8 hb hB hc lm λb hs h1 h2 h=>hands_hold hs h1 h2 h
theorem params4_ok:(Tryz.f4.params.toList.all λt=>Tryz.prog.readableRec t&&decide (t<Tryz.prog.types.size))=true:=by kernel_rfl
theorem results4_one:Tryz.f4.resultTypes= #[4]:=by unfold Tryz.f4;rfl
theorem sm_4:Smore 4=true:=by kernel_rfl
theorem q4:Tryz.prog.funcs[4]?=jY.funcs[4]?:=by unfold jY;exact (zg Tryz.prog _ (by decide)).symm
theorem judge_lifted (os:Os) (started:os.Started) (H:Type) (enc:TypeId×Value->H) (F:Stop.Interp):
 ReturnsInLeavingWide Rows.threadJudgesRow.assume Tryz.checked os 4 .any (Rows.threadJudgesSpec.pre6 enc Tryz.prog Tryz.f4 Rows.threadJudgesRow.domain false) ((OpenSpec.ofChange Rows.threadJudgesSpec).postWith enc Tryz.prog Tryz.f4 F (outsideKept [.timePasses]) false true false):=by
 refine PR (C:=Tryz.checked) Tryz.knob started Tryz.func4
  (ChangeSpec.witness6c (enc:=enc) (C:=Tryz.checked) ⟨#[],#[.agg #[.slice none 0 0,.slice none 0 0,.slice none 0 0,.slice none 0 0],.int .i64 0],[]⟩ 8 (by kernel_rfl) (by kernel_rfl) (by kernel_rfl) (by kernel_rfl)) ?_
 intro W base args ds gs before hsh hval0 hW _;have hval:∀(j:Nat) t v,Tryz.f4.params[j]?=some t->args[j]?=some v->Value.okWide Tryz.prog W .any base t v:=hval0
 have hW':=hW;obtain ⟨p,q,hA0,hV,rfl,hfz,_⟩:=hW;have hA:DataW.TrodAll enc Tryz.prog W 0 (λ_=>true) true Tryz.f4.params.toList args.toList ds p:=hA0;have hAk:=hA;rw [Tryz.params4] at hA hval;obtain ⟨rfl,rfl⟩:=trodVars_none hV;obtain ⟨l⟩:=args;obtain ⟨v0,vs1,d0,ds1,p0,q1,e0,rfl,rfl,h0,hA⟩:=trodAll_cons hA;obtain ⟨v1,vs2,d1,ds2,p1,q2,rfl,rfl,rfl,h1,hA⟩:=trodAll_cons hA;obtain ⟨rfl,rfl,rfl⟩:=trodAll_nil hA;have e0:l= [v0,v1]:=e0;subst e0;obtain ⟨_,h0⟩:=h0;obtain ⟨lm,rfl,rfl,rfl,wt⟩:=open_int Tryz.underlying3 (hval 1 3 v1 rfl rfl) h1;obtain ⟨s⟩:=aa1 (hval 0 26 v0 rfl rfl) h0;obtain ⟨o,ho,hodd⟩:=ZK hsh;obtain ⟨b,bv,M,hcap,hM⟩:=am1 ho hodd s;obtain ⟨hlies,hvs,hrv,hat⟩:=hM M [] (by simp);refine run_lawM hsh (L:=M) sm_4 q4 hlies (args:= #[dY b bv,.int .i64 lm]) ?_ ?_ (λτ=>?_) λW' t1 t2 t3 t4 t5=>⟨?_,t3⟩
 ·intro v hv;simp only [List.mem_toArray,List.mem_cons,List.not_mem_nil,or_false] at hv;rcases hv with rfl|rfl
  ·exact hvs _ _ _
  ·simp
 ·simp only [List.map_toArray,List.map_cons,List.map_nil,iC];rw [hrv]
 ·exact judge_lone (hat τ) (Nat.le_refl _) hcap
 ·have hbel:Below W.heap.size W { W' with os:=W.os }:=⟨rfl,t1,t2,t4,t5⟩;refine ⟨_,_,_,[],_,[],hW',?_,Ei Tryz.laid hbel (λt ht=>?_) hAk (DataW.TrodAll.lt hAk),rfl,hbel.frame _, λh=>by cases h⟩
  ·show DataW.TrodAll enc Tryz.prog _ _ _ _ Tryz.f4.resultTypes.toList _ _ _;rw [results4_one];exact trodAll_mk1 (shut_bool Tryz.underlying4 true)
  ·have :=List.all_eq_true.1 params4_ok t ht;simpa using this
theorem threadJudges_holds:Rows.ThreadJudgesSaid:=
 OpenClaim.holds_of_wide_leaving_time 4 Tryz.f4 rfl rfl rfl rfl rfl rfl rfl ⟨rfl,rfl,rfl,rfl,rfl⟩ rfl rfl rfl rfl rfl (by kernel_rfl) Tryz.func4 (by kernel_rfl)
  (of_decide_eq_true (by kernel_rfl)) (by unfold Func.isWrapper;first |(rw [if_pos (by decide+kernel)];kernel_rfl)|(rw [if_neg (by decide+kernel)];exact ⟨rfl,rfl⟩))
  (λos started H enc _ F=>judge_lifted os started H enc F)
end Go.Proofs.YtnemnkmojiljmaaGreat
end
