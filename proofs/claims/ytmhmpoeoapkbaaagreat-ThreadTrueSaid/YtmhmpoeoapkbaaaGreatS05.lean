/- ThreadTrue answers true, whatever comes in, on every schedule; its arguments as they were: no condition of its own beside the row. -/
import Derived.Test.YtmhmpoeoapkbaaaGreatH34
import Derived.Test.YtmhmpoeoapkbaaaGreatS04
set_option maxRecDepth 100000
set_option maxHeartbeats 0
set_option linter.all false
namespace Go.Proofs.YtmhmpoeoapkbaaaGreat
open Go Go.RowKit Go.ChangeShapes Go.WideShapes Go.ChangeAt Go.Conc Go.ConcM Par Go.Proofs.Tryz
theorem params5_ok:(Tryz.f3.params.toList.all λt=>Tryz.prog.readableRec t&&decide (t<Tryz.prog.types.size))=true:=by kernel_rfl
theorem results5_one:Tryz.f3.resultTypes= #[4]:=by unfold Tryz.f3;rfl
theorem qcM:Tryz.f3.body=some Tryz.qax:=by unfold Tryz.qax Tryz.f3;rfl
theorem qco:Tryz.qcJ.size=11:=by kernel_rfl
theorem qe4:∃o,Tryz.qcJ[0]?=some o∧o.op=.load 26 (.tmp 10)∧o.dst=some 72∧o.guard=none:=by
 simp only[Tryz.qcJ,Tryz.qax,Tryz.f3,gG,jF,Option.getD_some,Nat.reduceEqDiff,if_true,if_false,reduceIte];exact⟨_,rfl,rfl,rfl,rfl⟩
theorem qe5:∃o,Tryz.qcJ[1]?=some o∧o.op=.call { callee:=.value (.func 13),args:= #[.tmp 72],argTypes:= #[26] }∧o.dst=some 73∧o.guard=none:=by
 simp only[Tryz.qcJ,Tryz.qax,Tryz.f3,gG,jF,Option.getD_some,Nat.reduceEqDiff,if_true,if_false,reduceIte];exact⟨_,rfl,rfl,rfl,rfl⟩
theorem qcp{o:Oper}(h:o.guard=none)(y:Nat->Option Bool):Region.wanted o y=true:=by
 unfold Region.wanted;rw[h]
theorem qcq{W:World}(hsh:W.ShapedOpen Tryz.prog){L:List Part}{b:dO}{bv:gJ}{v0 v3:Value}{lm cp:Nat}{A:Option Addr}{pk:List Int}(hL:∀x∈L,x.h=false->U9 L Tryz.prog.types.size W x)
 (hvs:letI:=zi L Tryz.prog.types.size; ∀(S V:FuncId->Bool)(cd:Code->Bool),vs (FA S V cd (Bd (aL L) (L.length+1))) (dY b bv)=true) (hrv:letI:=zi L Tryz.prog.types.size;rv (fL L) (dY b bv)=v0)
 (hvp:letI:=zi L Tryz.prog.types.size; ∀(S V:FuncId->Bool)(cd:Code->Bool),vs (FA S V cd (Bd (aL L) (L.length+1))) (.slice A pk.length cp)=true) (hrp:letI:=zi L Tryz.prog.types.size;rv (fL L) (.slice A pk.length cp)=v3)
 (hat:∀τ,fC ((wL L Tryz.prog.types.size W).tp τ) ((wL L Tryz.prog.types.size W).tp τ).heap.size b bv) (hpk:∀τ,RdU ((wL L Tryz.prog.types.size W).tp τ) ((wL L Tryz.prog.types.size W).tp τ).heap.size A pk) (hu:U16 pk) (hcap:GG b bv) (hlim:lm<65536) {Post:Value->World->Prop}
 (hpost:∀W',W'.tape=W.tape->W'.output=W.output->OsLater W.os W'.os->W.heap.size<=W'.heap.size->(∀b,b<W.heap.size->W'.heap[b]?=W.heap[b]?)->Post (.bool true) W'):
 Par.Ends Tryz.prog Post (solo (G (Frame.enter Tryz.prog 3 #[v0,.int .u16 (lm:Int),v3] .normal) []) W) #[]:=by
 have ha:letI:=zi L Tryz.prog.types.size;VS (FA ωe δG (fe qa4 ωe δG) (Bd (aL L) (L.length+1))) #[dY b bv,.int .u16 (lm:Int),.slice A pk.length cp]:=by
  intro v hv;simp only[List.mem_toArray,List.mem_cons,List.not_mem_nil,or_false]at hv;rcases hv with rfl|rfl|rfl
  .exact hvs _ _ _
  .simp
  .exact hvp _ _ _
 have XJ:letI:=zi L Tryz.prog.types.size;(#[v0,.int .u16 (lm:Int),v3]:Array Value)=(#[dY b bv,.int .u16 (lm:Int),.slice A pk.length cp]:Array Value).map (rv (fL L)):=by
  simp only[List.map_toArray,List.map_cons,List.map_nil,iC];rw[hrv,hrp]
 by_cases hx:Dz b=true∨fG b≠0
 .exact qcz hsh (g:=3) (fn:=Tryz.f3) rfl Tryz.func3 (by decide) (by decide) hL ha XJ (λτ=>@Lo.qbO stT _ _ _ _ _ _ qbX (hat τ) (Nat.le_refl _) hcap hx) hpost
 .have hg:Dz b=false:=by
   cases e:Dz b with
   |false=>rfl
   |true=>exact absurd (.inl e) hx
  have hc:fG b=0:=by
   by_cases e:fG b=0
   .exact e
   .exact absurd (.inr e) hx
  letI:Lo.St:=stT;obtain⟨o0,a1,a2,a3,a4⟩:=qe4;obtain⟨o1,b1,b2,b3,b4⟩:=qe5;have qdL:∀τ,((wL L Tryz.prog.types.size W).tp τ).heap.size=L.length+1:= λτ=>sQ (L:=L) (bad:=Tryz.prog.types.size) (W:=W)
  refine qcA hsh (g:=3) (fn:=Tryz.f3) (code:=Tryz.qax) (z:=Tryz.νU) (ωP:=Tryz.ζI) (tb:=10) (id:=11) (ops:=Tryz.qcJ) (rest:=List.range' 2 9) (o0:=o0) (o1:=o1) (t0:=72) (ats:= #[26]) rfl Tryz.func3 (by decide) (by decide) qcM hL ha XJ a1 (qcp a4) a2 a3 b1 (qcp b4) b2 (by rw[qco];rfl)
   (T:= λo a w=>∃τ,T5 (L.length+1) ((wL L Tryz.prog.types.size W).tp τ) b bv lm o a w) (N:=N5) (λo a w hT=>?_) (λa w hN=>hN.d) (λτ=>?_) (λo a w w' v A cap st m found hT hsz hsame iq hlen hrd=>?_) (λa w τ hN=>@Lo.qbP stT _ _ _ qbX hN) hpost
  .obtain⟨τ,hT⟩:=hT;obtain⟨ms,ls,_,_,_,_,_,_,_,_,_,_,hR,_⟩:=hT.real;exact⟨hR.small,hR.check,hT.d,by rw[hT.sz];decide,qd8 hL hT (by rw[qdL]) rfl hvs⟩
  .obtain⟨fr,w',hT,hs⟩:=@Lo.qcm stA ((wL L Tryz.prog.types.size W).tp τ) (L.length+1) b bv lm cp A pk _ _ rfl rfl (by have :=hat τ;rw[qdL]at this;exact this) (by rw[qdL];exact Nat.le_refl _) hcap hg hc hlim (by have :=hpk τ;rw[qdL]at this;exact this) hu;refine⟨fr,w',?_,hs⟩;rcases hT with⟨o,a,h,e⟩|⟨a,h,e⟩
   .exact .inl ⟨o,a,⟨τ,h⟩,e⟩
   .exact .inr ⟨a,h,e⟩
  .obtain⟨τ,hT⟩:=hT;obtain⟨ms,ls,_,_,_,_,_,_,_,_,_,_,hR,_⟩:=hT.real;have :=@Lo.qbN stT _ _ w' (L.length+1) b o bv v lm a A cap st m found qbX (by have :=hat τ;rw[qdL]at this;exact this) (by rw[qdL];exact Nat.le_refl _) hlim (Gt hc) hT hsz hsame (qbK hR.check iq);rw[a3,b3];exact this
theorem qbs(os:Os)(started:os.Started)(H:Type)(enc:TypeId×Value->H)(F:Stop.Interp):
 ReturnsInLeavingWide Rows.threadTrueRow.assume Tryz.checked os 3 .any (Rows.threadTrueSpec.pre6 enc Tryz.prog Tryz.f3 Rows.threadTrueRow.domain false) ((OpenSpec.ofChange Rows.threadTrueSpec).postWith enc Tryz.prog Tryz.f3 F (outsideKept [.timePasses]) false true false):=by
 refine PR (C:=Tryz.checked) Tryz.knob started Tryz.func3
  (ChangeSpec.witness6c (enc:=enc) (C:=Tryz.checked) ⟨#[],#[.agg #[.slice none 0 0,.slice none 0 0,.slice none 0 0,.slice none 0 0],.int .u16 0,.slice none 0 0],[]⟩ 8 (by kernel_rfl) (by kernel_rfl) (by kernel_rfl) (by kernel_rfl)) ?_
 intro W base args ds gs before hsh hval0 hW _;have hval:∀(j:Nat)t v,Tryz.f3.params[j]?=some t->args[j]?=some v->Value.okWide Tryz.prog W .any base t v:=hval0
 have hW':=hW;obtain⟨p,q,hA0,hV,rfl,hfz,_⟩:=hW;have hA:DataW.TrodAll enc Tryz.prog W 0 (λ_=>true) true Tryz.f3.params.toList args.toList ds p:=hA0;have hAk:=hA;rw[Tryz.params3]at hA hval;obtain⟨rfl,rfl⟩:=trodVars_none hV;obtain⟨l⟩:=args;obtain⟨v0,vs1,d0,ds1,p0,q1,e0,rfl,rfl,h0,hA⟩:=trodAll_cons hA;obtain⟨v2,vs2,d1,ds2,p1,q2,rfl,rfl,rfl,h2,hA⟩:=trodAll_cons hA;obtain⟨v3,vs3,d2,ds3,p2,q3,rfl,rfl,rfl,h3,hA⟩:=trodAll_cons hA;obtain⟨rfl,rfl,rfl⟩:=trodAll_nil hA;have e0:l= [v0,v2,v3]:=e0;subst e0;obtain⟨_,h0⟩:=h0;obtain⟨lm,rfl,rfl,rfl,wt⟩:=open_int Tryz.underlying27 (hval 1 27 v2 rfl rfl) h2
 have hpl:0<=lm∧lm<65536:=by
  simp[Lit.wf,IntKind.min,IntKind.max,IntKind.signed,IntKind.bits]at wt;omega
 obtain⟨lm,rfl⟩:∃n:Nat,lm=(n:Int):=⟨lm.toNat,by omega⟩;obtain⟨A3,n3,c3,rfl⟩:=okWide_slice Tryz.underlying28 (hval 2 28 v3 rfl rfl);obtain⟨_,h3⟩:=h3;obtain⟨_,_,_,e,s3⟩:=Vb Tryz.underlying28 al9 (by omega) av0 h3;obtain⟨rfl,rfl,rfl⟩:A3=_∧n3=_∧c3=_:=by simpa[Value.cells]using e
 obtain⟨s⟩:=aa1 (hval 0 26 v0 rfl rfl) h0;obtain⟨o,ho,hodd⟩:=ZK hsh;obtain⟨D3,r3,t3,i3⟩:=s3.flat (by omega) ar9 ho hodd
 obtain⟨picks,l3,g3,hu⟩:∃picks:List Int,picks.length=n3∧(∀i j,i<n3->j<1->D3 i j=qc7 picks i j)∧U16 picks:=
  ⟨(List.range n3).map λi=>intOf (D3 i 0),by simp, λi j hi hj=>by
    obtain⟨m,hm,_⟩:=r3 i j hi hj;obtain rfl:j=0:=by omega
    simp[qc7,hi,hm,intOf], λx hx=>by
    obtain⟨i,hi,rfl⟩:=List.mem_map.1 hx;obtain⟨m,hm,hw⟩:=r3 i 0 (by simpa using hi) (by omega);rw[hm];simp[Lit.wf,IntKind.min,IntKind.max,IntKind.signed,IntKind.bits]at hw;simp only[intOf];omega⟩
 subst l3;obtain⟨b,bv,M,hcap,hM⟩:=am1 ho hodd s;obtain⟨L,hL⟩:∃L,L=M++ [partOf A3 c3 (nS picks.length 1 D3)]:=⟨_,rfl⟩;obtain⟨hlies,hvs,hrv,hat⟩:=hM L [partOf A3 c3 (nS picks.length 1 D3)] hL;have k0:L[M.length]?=some (partOf A3 c3 (nS picks.length 1 D3)):=by rw[hL,List.getElem?_append_right (Nat.le_refl _),Nat.sub_self];rfl
 have hll:∀x∈L,x.h=false->U9 L Tryz.prog.types.size W x:= λx hx hh=>by
  rw[hL]at hx;rcases List.mem_append.1 hx with hx|hx
  .exact hlies x hx hh
  .simp only[List.mem_cons,List.not_mem_nil,or_false]at hx;subst hx;exact(i3 L _).lies (rP t3).2 hh
 refine qcq hsh hll hvs hrv (A:=qy (M.length+1) A3) (pk:=picks) (cp:=c3) (λS V cd=>rO (i3 L Tryz.prog.types.size).part k0 s3.le) ?_ hat (λτ=>?_) hu hcap (by omega) λW' t1 t2 t3 t4 t5=>⟨?_,t3⟩
 .have e3:=rM (bad:=Tryz.prog.types.size) (i3 L Tryz.prog.types.size).part k0;letI:Par.Sh:=zi L Tryz.prog.types.size;rw[fD,e3]
 .have x3:=Fs k0 (i3 L Tryz.prog.types.size) (by omega) τ;exact x3.conv g3
 .have hbel:Below W.heap.size W { W' with os:=W.os }:=⟨rfl,t1,t2,t4,t5⟩;refine⟨_,_,_,[],_,[],hW',?_,Ei Tryz.laid hbel (λt ht=>?_) hAk (DataW.TrodAll.lt hAk),rfl,hbel.frame _, λh=>by cases h⟩
  .show DataW.TrodAll enc Tryz.prog _ _ _ _ Tryz.f3.resultTypes.toList _ _ _;rw[results5_one];exact trodAll_mk1 (shut_bool Tryz.underlying4 true)
  .have :=List.all_eq_true.1 params5_ok t ht;simpa using this
theorem threadTrue_holds:Rows.ThreadTrueSaid:=
 OpenClaim.holds_of_wide_leaving_time 3 Tryz.f3 rfl rfl rfl rfl rfl rfl rfl ⟨rfl,rfl,rfl,rfl,rfl⟩ rfl rfl rfl rfl rfl (by kernel_rfl) Tryz.func3 (by kernel_rfl)
  (of_decide_eq_true (by kernel_rfl)) (by unfold Func.isWrapper;first|(rw[if_pos (by decide+kernel)];kernel_rfl)|(rw[if_neg (by decide+kernel)];exact⟨rfl,rfl⟩))
  (λos started H enc _ F=>qbs os started H enc F)
end Go.Proofs.YtmhmpoeoapkbaaaGreat
