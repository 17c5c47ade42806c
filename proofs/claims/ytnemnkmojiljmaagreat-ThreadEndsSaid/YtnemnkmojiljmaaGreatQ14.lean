/- ThreadEnds answers true, whatever comes in, on every schedule; its arguments as they were: no condition of its own beside the row. -/
import Derived.Test.YtnemnkmojiljmaaGreatH34
import Derived.Test.YtnemnkmojiljmaaGreatQ13
set_option maxRecDepth 100000
set_option maxHeartbeats 0
set_option linter.all false
namespace Go.Proofs.YtnemnkmojiljmaaGreat
open Go Go.RowKit Go.ChangeShapes Go.WideShapes Go.ChangeAt Go.Conc Go.ConcM Par Go.Proofs.Tryz
theorem ends_lone {w:World} {B:Nat} {b:dO} {v:gJ} {pile:Int} (hb:fC w B b v) (hB:B<=w.heap.size) (hc:GG b v) (hp:0<=pile∧pile<256):
 Calls jY 6 #[dY b v,.int .u8 pile] w λe _=>e= .returned (.bool true):=by
 rw [<-ZF];letI:=TP;exact Lo.tends_any as8 hb hB hc hp
theorem params6_ok:(Tryz.f6.params.toList.all λt=>Tryz.prog.readableRec t&&decide (t<Tryz.prog.types.size))=true:=by kernel_rfl
theorem results6_one:Tryz.f6.resultTypes= #[4]:=by unfold Tryz.f6;rfl
theorem s0_6:S0 6=true:=by kernel_rfl
theorem q6:Tryz.prog.funcs[6]?=jY.funcs[6]?:=by unfold jY;exact (zg Tryz.prog _ (by decide)).symm
theorem ends_lifted (os:Os) (started:os.Started) (H:Type) (enc:TypeId×Value->H) (F:Stop.Interp):
 ReturnsInLeavingWide Rows.threadEndsRow.assume Tryz.checked os 6 .any (Rows.threadEndsSpec.pre6 enc Tryz.prog Tryz.f6 Rows.threadEndsRow.domain false) ((OpenSpec.ofChange Rows.threadEndsSpec).postWith enc Tryz.prog Tryz.f6 F (outsideKept [.timePasses]) false true false):=by
 refine PR (C:=Tryz.checked) Tryz.knob started Tryz.func6
  (ChangeSpec.witness6c (enc:=enc) (C:=Tryz.checked) ⟨#[],#[.agg #[.slice none 0 0,.slice none 0 0,.slice none 0 0,.slice none 0 0],.int .u8 0],[]⟩ 8 (by kernel_rfl) (by kernel_rfl) (by kernel_rfl) (by kernel_rfl)) ?_
 intro W base args ds gs before hsh hval0 hW _;have hval:∀(j:Nat) t v,Tryz.f6.params[j]?=some t->args[j]?=some v->Value.okWide Tryz.prog W .any base t v:=hval0
 have hW':=hW;obtain ⟨p,q,hA0,hV,rfl,hfz,_⟩:=hW;have hA:DataW.TrodAll enc Tryz.prog W 0 (λ_=>true) true Tryz.f6.params.toList args.toList ds p:=hA0;have hAk:=hA;rw [Tryz.params6] at hA hval;obtain ⟨rfl,rfl⟩:=trodVars_none hV;obtain ⟨l⟩:=args;obtain ⟨v0,vs1,d0,ds1,p0,q1,e0,rfl,rfl,h0,hA⟩:=trodAll_cons hA;obtain ⟨v1,vs2,d1,ds2,p1,q2,rfl,rfl,rfl,h1,hA⟩:=trodAll_cons hA;obtain ⟨rfl,rfl,rfl⟩:=trodAll_nil hA;have e0:l= [v0,v1]:=e0;subst e0;obtain ⟨_,h0⟩:=h0;obtain ⟨pile,rfl,rfl,rfl,wt⟩:=open_int Tryz.underlying5 (hval 1 5 v1 rfl rfl) h1
 have hpl:0<=pile∧pile<256:=by
  simp [Lit.wf,IntKind.min,IntKind.max,IntKind.signed,IntKind.bits] at wt;omega
 obtain ⟨s⟩:=aa1 (hval 0 26 v0 rfl rfl) h0;obtain ⟨o,ho,hodd⟩:=ZK hsh;obtain ⟨b,bv,M,hcap,hM⟩:=am1 ho hodd s;obtain ⟨hlies,hvs,hrv,hat⟩:=hM M [] (by simp);refine am0 hsh (L:=M) s0_6 q6 hlies (args:= #[dY b bv,.int .u8 pile]) ?_ ?_ (λτ=>?_) λW' t1 t2 t3 t4 t5=>⟨?_,t3⟩
 ·intro v hv;simp only [List.mem_toArray,List.mem_cons,List.not_mem_nil,or_false] at hv;rcases hv with rfl|rfl
  ·exact hvs _ _ _
  ·simp
 ·simp only [List.map_toArray,List.map_cons,List.map_nil,iC];rw [hrv]
 ·exact ends_lone (hat τ) (Nat.le_refl _) hcap hpl
 ·have hbel:Below W.heap.size W { W' with os:=W.os }:=⟨rfl,t1,t2,t4,t5⟩;refine ⟨_,_,_,[],_,[],hW',?_,Ei Tryz.laid hbel (λt ht=>?_) hAk (DataW.TrodAll.lt hAk),rfl,hbel.frame _, λh=>by cases h⟩
  ·show DataW.TrodAll enc Tryz.prog _ _ _ _ Tryz.f6.resultTypes.toList _ _ _;rw [results6_one];exact trodAll_mk1 (shut_bool Tryz.underlying4 true)
  ·have :=List.all_eq_true.1 params6_ok t ht;simpa using this
theorem threadEnds_holds:Rows.ThreadEndsSaid:=
 OpenClaim.holds_of_wide_leaving_time 6 Tryz.f6 rfl rfl rfl rfl rfl rfl rfl ⟨rfl,rfl,rfl,rfl,rfl⟩ rfl rfl rfl rfl rfl (by kernel_rfl) Tryz.func6 (by kernel_rfl)
  (of_decide_eq_true (by kernel_rfl)) (by unfold Func.isWrapper;first |(rw [if_pos (by decide+kernel)];kernel_rfl)|(rw [if_neg (by decide+kernel)];exact ⟨rfl,rfl⟩))
  (λos started H enc _ F=>ends_lifted os started H enc F)
end Go.Proofs.YtnemnkmojiljmaaGreat
