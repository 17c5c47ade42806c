/- ThreadProved answers true, whatever comes in, on every schedule; its arguments as they were: no condition of its own beside the row. -/
import Derived.Test.YtnemnkmojiljmaaGreatH34
import Derived.Test.YtnemnkmojiljmaaGreatS02
import Derived.Test.YtnemnkmojiljmaaGreatS03
set_option maxRecDepth 100000
set_option maxHeartbeats 0
set_option linter.all false
namespace Go.Proofs.YtnemnkmojiljmaaGreat
open Go Go.RowKit Go.ChangeShapes Go.WideShapes Go.ChangeAt Go.Conc Go.ConcM Par Go.Proofs.Tryz
theorem params12_ok:(Tryz.f12.params.toList.all λt=>Tryz.prog.readableRec t&&decide (t<Tryz.prog.types.size))=true:=by kernel_rfl
theorem results12_one:Tryz.f12.resultTypes= #[4]:=by unfold Tryz.f12;rfl
theorem body12_eq:Tryz.f12.body=some Tryz.body12:=by unfold Tryz.body12 Tryz.f12;rfl
theorem ops12_size:Tryz.ops12.size=11:=by kernel_rfl
theorem op12_0:∃o,Tryz.ops12[0]?=some o∧o.op= .load 26 (.tmp 3)∧o.dst=some 55∧o.guard=none:=by
 simp only [Tryz.ops12,Tryz.body12,Tryz.f12,gG,jF,Option.getD_some,Nat.reduceEqDiff,if_true,if_false,reduceIte];exact ⟨_,rfl,rfl,rfl,rfl⟩
theorem op12_1:∃o,Tryz.ops12[1]?=some o∧o.op= .call { callee:=.value (.func 28),args:= #[.tmp 55],argTypes:= #[26] }∧o.dst=some 56∧o.guard=none:=by
 simp only [Tryz.ops12,Tryz.body12,Tryz.f12,gG,jF,Option.getD_some,Nat.reduceEqDiff,if_true,if_false,reduceIte];exact ⟨_,rfl,rfl,rfl,rfl⟩
theorem wanted_of {o:Oper} (h:o.guard=none) (y:Nat->Option Bool):Region.wanted o y=true:=by
 unfold Region.wanted;rw [h]
theorem proved_ends {W:World} (hsh:W.ShapedOpen Tryz.prog) {L:List Part} {b:dO} {bv:gJ} {v0:Value} {set:Nat} {eO:Bool} (hL:∀x∈L,x.h=false->U9 L Tryz.prog.types.size W x)
 (hvs:letI:=zi L Tryz.prog.types.size; ∀(S V:FuncId->Bool) (cd:Code->Bool),vs (FA S V cd (Bd (aL L) (L.length+1))) (dY b bv)=true) (hrv:letI:=zi L Tryz.prog.types.size;rv (fL L) (dY b bv)=v0)
 (hat:∀τ,fC ((wL L Tryz.prog.types.size W).tp τ) ((wL L Tryz.prog.types.size W).tp τ).heap.size b bv) (hcap:GG b bv) (nE:set<256) {Post:Value->World->Prop}
 (hpost:∀W',W'.tape=W.tape->W'.output=W.output->OsLater W.os W'.os->W.heap.size<=W'.heap.size->(∀b,b<W.heap.size->W'.heap[b]?=W.heap[b]?)->Post (.bool true) W'):
 Par.Ends Tryz.prog Post (solo (G (Frame.enter Tryz.prog 12 #[v0,.int .u8 (set:Int),.bool eO] .normal) []) W) #[]:=by
 have ha:letI:=zi L Tryz.prog.types.size;VS (FA ωe δG (fe progA ωe δG) (Bd (aL L) (L.length+1))) #[dY b bv,.int .u8 (set:Int),.bool eO]:=by
  intro v hv;simp only [List.mem_toArray,List.mem_cons,List.not_mem_nil,or_false] at hv;rcases hv with rfl|rfl|rfl
  ·exact hvs _ _ _
  ·simp
  ·simp
 have XJ:letI:=zi L Tryz.prog.types.size;(#[v0,.int .u8 (set:Int),.bool eO]:Array Value)=(#[dY b bv,.int .u8 (set:Int),.bool eO]:Array Value).map (rv (fL L)):=by
  simp only [List.map_toArray,List.map_cons,List.map_nil,iC,jZ];rw [hrv]
 by_cases hx:Dz b=true∨fG b≠0
 ·exact run_lawN hsh (g:=12) (fn:=Tryz.f12) rfl Tryz.func12 (by decide) (by decide) hL ha XJ (λτ=>@Lo.tproved_skip stT _ _ _ _ _ _ stub5T (hat τ) (Nat.le_refl _) hcap hx) hpost
 ·have hg:Dz b=false:=by
   cases e:Dz b with
   |false=>rfl
   |true=>exact absurd (.inl e) hx
  have hc:fG b=0:=by
   by_cases e:fG b=0
   ·exact e
   ·exact absurd (.inr e) hx
  letI:Lo.St:=stT;obtain ⟨o0,a1,a2,a3,a4⟩:=op12_0;obtain ⟨o1,b1,b2,b3,b4⟩:=op12_1;have hwsz:∀τ,((wL L Tryz.prog.types.size W).tp τ).heap.size=L.length+1:= λτ=>sQ (L:=L) (bad:=Tryz.prog.types.size) (W:=W)
  refine run_lawP hsh (g:=12) (fn:=Tryz.f12) (code:=Tryz.body12) (z:=Tryz.z12) (b:=b) (tb:=3) (id:=11) (ops:=Tryz.ops12) (rest:=List.range' 2 9) (o0:=o0) (o1:=o1) (t0:=55) (ats:= #[26]) rfl Tryz.func12 (by decide) (by decide) body12_eq hL ha XJ (Vz hg) hc a1 (wanted_of a4) a2 a3 b1 (wanted_of b4) b2 (by rw [ops12_size];rfl)
   (T:= λa w=>∃τ,T12 (L.length+1) ((wL L Tryz.prog.types.size W).tp τ) b bv set eO a w) (λa w hT=>?_) (λτ=>?_) (λa w w' v A cap st m found hT hsz hsame iq hlen hrd=>?_) hpost
  ·obtain ⟨τ,hT⟩:=hT;refine ⟨hT.d,by rw [hT.sz];decide,bv,?_⟩;have hz:L.length+1<=w.heap.size:=by have :=hT.bel.size;rw [hwsz] at this;exact this
   obtain ⟨l1,l2⟩:=leans_parts (W:=W) (w:=w) hL hz λx hx=>hT.bel.block x (by rw [hwsz];exact hx)
   exact ⟨⟨_,_,hT.e3,hT.box⟩,bk_more ((hat τ).keep λx o hx=>cell_hq (hT.bel.block x hx) o) (by rw [hwsz];exact hz),_,l1,l2 _ hvs⟩
  ·obtain ⟨a',w',hT,hs⟩:=@Lo.tproved_pre stA ((wL L Tryz.prog.types.size W).tp τ) (L.length+1) b bv set eO _ rfl (by have :=hat τ;rw [hwsz] at this;exact this) (by rw [hwsz];exact Nat.le_refl _) hcap hg hc nE;exact ⟨a',w',⟨τ,hT⟩,hs⟩
  ·obtain ⟨τ,hT⟩:=hT;have :=@Lo.tproved_tail stT _ _ w' (L.length+1) b bv v set eO a A cap st m found stub5T (by have :=hat τ;rw [hwsz] at this;exact this) (by rw [hwsz];exact Nat.le_refl _) hg hc hT hsz hsame (proof_best hc iq) hlen hrd;rw [a3,b3];exact this
theorem proved_lifted (os:Os) (started:os.Started) (H:Type) (enc:TypeId×Value->H) (F:Stop.Interp):
 ReturnsInLeavingWide Rows.threadProvedRow.assume Tryz.checked os 12 .any (Rows.threadProvedSpec.pre6 enc Tryz.prog Tryz.f12 Rows.threadProvedRow.domain false) ((OpenSpec.ofChange Rows.threadProvedSpec).postWith enc Tryz.prog Tryz.f12 F (outsideKept [.timePasses]) false true false):=by
 refine PR (C:=Tryz.checked) Tryz.knob started Tryz.func12
  (ChangeSpec.witness6c (enc:=enc) (C:=Tryz.checked) ⟨#[],#[.agg #[.slice none 0 0,.slice none 0 0,.slice none 0 0,.slice none 0 0],.int .u8 0,.bool false],[]⟩ 8 (by kernel_rfl) (by kernel_rfl) (by kernel_rfl) (by kernel_rfl)) ?_
 intro W base args ds gs before hsh hval0 hW _;have hval:∀(j:Nat) t v,Tryz.f12.params[j]?=some t->args[j]?=some v->Value.okWide Tryz.prog W .any base t v:=hval0
 have hW':=hW;obtain ⟨p,q,hA0,hV,rfl,hfz,_⟩:=hW;have hA:DataW.TrodAll enc Tryz.prog W 0 (λ_=>true) true Tryz.f12.params.toList args.toList ds p:=hA0;have hAk:=hA;rw [Tryz.params12] at hA hval;obtain ⟨rfl,rfl⟩:=trodVars_none hV;obtain ⟨l⟩:=args;obtain ⟨v0,vs1,d0,ds1,p0,q1,e0,rfl,rfl,h0,hA⟩:=trodAll_cons hA;obtain ⟨v1,vs2,d1,ds2,p1,q2,rfl,rfl,rfl,h1,hA⟩:=trodAll_cons hA;obtain ⟨v2,vs3,d2,ds3,p2,q3,rfl,rfl,rfl,h2,hA⟩:=trodAll_cons hA;obtain ⟨rfl,rfl,rfl⟩:=trodAll_nil hA;have e0:l= [v0,v1,v2]:=e0;subst e0;obtain ⟨_,h0⟩:=h0;obtain ⟨set,rfl,rfl,rfl,wt⟩:=open_int Tryz.underlying5 (hval 1 5 v1 rfl rfl) h1
 have hpl:0<=set∧set<256:=by
  simp [Lit.wf,IntKind.min,IntKind.max,IntKind.signed,IntKind.bits] at wt;omega
 obtain ⟨set,rfl⟩:∃n:Nat,set=(n:Int):=⟨set.toNat,by omega⟩;obtain ⟨eO,rfl,rfl,rfl⟩:=open_bool Tryz.underlying4 (hval 2 4 v2 rfl rfl) h2;obtain ⟨s⟩:=aa1 (hval 0 26 v0 rfl rfl) h0;obtain ⟨o,ho,hodd⟩:=ZK hsh;obtain ⟨b,bv,M,hcap,hM⟩:=am1 ho hodd s;obtain ⟨hlies,hvs,hrv,hat⟩:=hM M [] (by simp);refine proved_ends hsh hlies hvs hrv hat hcap (by omega) λW' t1 t2 t3 t4 t5=>⟨?_,t3⟩
 have hbel:Below W.heap.size W { W' with os:=W.os }:=⟨rfl,t1,t2,t4,t5⟩;refine ⟨_,_,_,[],_,[],hW',?_,Ei Tryz.laid hbel (λt ht=>?_) hAk (DataW.TrodAll.lt hAk),rfl,hbel.frame _, λh=>by cases h⟩
 ·show DataW.TrodAll enc Tryz.prog _ _ _ _ Tryz.f12.resultTypes.toList _ _ _;rw [results12_one];exact trodAll_mk1 (shut_bool Tryz.underlying4 true)
 ·have :=List.all_eq_true.1 params12_ok t ht;simpa using this
theorem threadProved_holds:Rows.ThreadProvedSaid:=
 OpenClaim.holds_of_wide_leaving_time 12 Tryz.f12 rfl rfl rfl rfl rfl rfl rfl ⟨rfl,rfl,rfl,rfl,rfl⟩ rfl rfl rfl rfl rfl (by kernel_rfl) Tryz.func12 (by kernel_rfl)
  (of_decide_eq_true (by kernel_rfl)) (by unfold Func.isWrapper;first |(rw [if_pos (by decide+kernel)];kernel_rfl)|(rw [if_neg (by decide+kernel)];exact ⟨rfl,rfl⟩))
  (λos started H enc _ F=>proved_lifted os started H enc F)
end Go.Proofs.YtnemnkmojiljmaaGreat
