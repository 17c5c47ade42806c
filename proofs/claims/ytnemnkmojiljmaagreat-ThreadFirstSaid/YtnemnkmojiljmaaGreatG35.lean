/- ThreadFirst answers true, whatever comes in, on every schedule; its arguments read behind the call as they did: no condition of its own beside the row. Printed by program from longer texts: names are short. -/
import Derived.Test.YtnemnkmojiljmaaGreatG33
import Derived.Test.YtnemnkmojiljmaaGreatG34
set_option maxRecDepth 100000
set_option maxHeartbeats 0
set_option linter.all false
namespace Go.Proofs.YtnemnkmojiljmaaGreat
open Go Go.RowKit Go.ChangeShapes Go.WideShapes Go.ChangeAt Go.Conc Go.ConcM Par Go.Proofs.Tryz
theorem PK {w:World} {B:Nat} {b:dY} {v:gK} (hb:fJ w B b v) (hB:B<=w.heap.size) (hc:DI b v):
 Calls lM 9 #[eH b v] w λe _=>e= .returned (.bool true):=by
 rw [<-Xh];letI:=QV;exact Lo.PI av1 hb hB hc
theorem PL:(Tryz.f9.params.toList.all λt=>Tryz.prog.readableRec t&&decide (t<Tryz.prog.types.size))=true:=by kernel_rfl
theorem Lr:Tryz.f9.resultTypes= #[4]:=by unfold Tryz.f9;rfl
theorem aB8:S0 9=true:=by kernel_rfl
theorem q9:Tryz.prog.funcs[9]?=lM.funcs[9]?:=by unfold lM;exact (zW Tryz.prog _ (by decide)).symm
theorem Ls (os:Os) (started:os.Started) (H:Type) (enc:TypeId×Value->H) (F:Stop.Interp):
 ReturnsInLeavingWide Rows.threadFirstRow.assume Tryz.checked os 9 .any (Rows.threadFirstSpec.pre6 enc Tryz.prog Tryz.f9 Rows.threadFirstRow.domain false) ((OpenSpec.ofChange Rows.threadFirstSpec).postWith enc Tryz.prog Tryz.f9 F (outsideKept [.timePasses]) false true false):=by
 refine Fs (C:=Tryz.checked) Tryz.knob started Tryz.func9
  (ChangeSpec.witness6c (enc:=enc) (C:=Tryz.checked) ⟨#[],#[.agg #[.slice none 0 0,.slice none 0 0,.slice none 0 0,.slice none 0 0]],[]⟩ 8 (by kernel_rfl) (by kernel_rfl) (by kernel_rfl) (by kernel_rfl)) ?_
 intro W base args ds gs before hsh hval0 hW _;have hval:∀(j:Nat) t v,Tryz.f9.params[j]?=some t->args[j]?=some v->Value.okWide Tryz.prog W .any base t v:=hval0
 have hW':=hW;obtain ⟨p,q,hA0,hV,rfl,hfz,_⟩:=hW;have hA:DataW.TrodAll enc Tryz.prog W 0 (λ_=>true) true Tryz.f9.params.toList args.toList ds p:=hA0;have hAk:=hA;rw [Tryz.params9] at hA hval;obtain ⟨rfl,rfl⟩:=trodVars_none hV;obtain ⟨l⟩:=args;obtain ⟨v0,vs1,d0,ds1,p0,q1,e0,rfl,rfl,h0,hA⟩:=trodAll_cons hA;obtain ⟨rfl,rfl,rfl⟩:=trodAll_nil hA;have e0:l= [v0]:=e0;subst e0;obtain ⟨_,h0⟩:=h0;obtain ⟨s⟩:=TB (hval 0 26 v0 rfl rfl) h0;obtain ⟨o,ho,hodd⟩:=Xk hsh;obtain ⟨b,bv,M,hcap,hM⟩:=Zz ho hodd s;obtain ⟨hlies,hvs,hrv,hat⟩:=hM M [] (by simp);refine Zu hsh (L:=M) aB8 q9 hlies (args:= #[eH b bv]) ?_ ?_ (λτ=>?_) λW' t1 t2 t3 t4 t5=>⟨?_,t3⟩
 ·intro v hv;simp only [aB,bF,ax,or_false] at hv;subst hv;exact hvs _ _ _
 ·simp only [List.map_toArray,aC,List.map_nil];rw [hrv]
 ·exact PK (hat τ) (aJ _) hcap
 ·have hbel:Below W.heap.size W { W' with os:=W.os }:=⟨rfl,t1,t2,t4,t5⟩;refine ⟨_,_,_,[],_,[],hW',?_,Bf Tryz.laid hbel (λt ht=>?_) hAk (DataW.TrodAll.lt hAk),rfl,hbel.frame _, λh=>by cases h⟩
  ·show DataW.TrodAll enc Tryz.prog _ _ _ _ Tryz.f9.resultTypes.toList _ _ _;rw [Lr];exact trodAll_mk1 (shut_bool Tryz.underlying4 true)
  ·have :=bH.1 PL t ht;simpa using this
theorem threadFirst_holds:Rows.ThreadFirstSaid:=
 OpenClaim.holds_of_wide_leaving_time 9 Tryz.f9 rfl rfl rfl rfl rfl rfl rfl ⟨rfl,rfl,rfl,rfl,rfl⟩ rfl rfl rfl rfl rfl (by kernel_rfl) Tryz.func9 (by kernel_rfl)
  (of_decide_eq_true (by kernel_rfl)) (by unfold Func.isWrapper;first |(rw [aj (by decide+kernel)];kernel_rfl)|(rw [aa (by decide+kernel)];exact ⟨rfl,rfl⟩))
  (λos started H enc _ F=>Ls os started H enc F)
end Go.Proofs.YtnemnkmojiljmaaGreat
