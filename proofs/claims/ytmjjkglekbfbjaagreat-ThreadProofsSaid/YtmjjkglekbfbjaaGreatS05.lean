/- ThreadProofs answers true, whatever comes in, on every schedule; its arguments as they were: no condition of its own beside the row. -/
import Derived.Test.YtmjjkglekbfbjaaGreatH32
import Derived.Test.YtmjjkglekbfbjaaGreatS04
set_option maxRecDepth 100000
set_option maxHeartbeats 0
set_option linter.all false
namespace Go.Proofs.YtmjjkglekbfbjaaGreat
open Go Go.RowKit Go.ChangeShapes Go.WideShapes Go.ChangeAt Go.Conc Go.ConcM cS Go.Proofs.Tryz
def params11_ok:(Tryz.f3.params.toList.all λt=>Tryz.prog.readableRec t&&decide (t<Tryz.prog.types.size))=true:=by kernel_rfl
def results11_one:Tryz.f3.resultTypes= #[4]:=by unfold Tryz.f3;rfl
def DM:Tryz.f3.body=some Tryz.bodyY:=by unfold Tryz.bodyY Tryz.f3;rfl
def bH:Tryz.B6.size=11:=by kernel_rfl
def tR:∃o,Tryz.B6[0]?=some o∧o.op=.load 26 (.tmp 3)∧o.dst=some 26∧o.guard=none:=by simp only[Tryz.B6,Tryz.bodyY,Tryz.f3,gG,jF,Option.getD_some,Nat.reduceEqDiff,if_true,if_false,reduceIte];exact⟨_,rfl,rfl,rfl,rfl⟩
def IR:∃o,Tryz.B6[1]?=some o∧o.op=.call { callee:=.value (.func 6),args:= #[.tmp 26],argTypes:= #[26] }∧o.dst=some 27∧o.guard=none:=by simp only[Tryz.B6,Tryz.bodyY,Tryz.f3,gG,jF,Option.getD_some,Nat.reduceEqDiff,if_true,if_false,reduceIte];exact⟨_,rfl,rfl,rfl,rfl⟩
def MA{o:Oper}(h:o.guard=none)(y:Nat->Option Bool):Region.wanted o y=true:=by unfold Region.wanted;rw[h]
def LN:Tryz.prog.cellsOf 3=1:=by kernel_rfl
def B8{W:World}(hsh:W.ShapedOpen Tryz.prog){L:List Part}{b:dO}{bv:gJ}{v0 v1:Value}{eO:Bool}{cp:Nat}{A:Option Addr}{l:List Int}(hL:∀x∈L,x.h=false->U9 L Tryz.prog.types.size W x)
 (hvs:letI:=zi L Tryz.prog.types.size; ∀(S V:FuncId->Bool)(cd:Code->Bool),vs (FA S V cd (Bd (aL L) (L.length+1))) (dY b bv)=true) (Hn:letI:=zi L Tryz.prog.types.size;rv (fL L) (dY b bv)=v0)
 (hvp:letI:=zi L Tryz.prog.types.size; ∀(S V:FuncId->Bool)(cd:Code->Bool),vs (FA S V cd (Bd (aL L) (L.length+1))) (.slice A l.length cp)=true) (hrp:letI:=zi L Tryz.prog.types.size;rv (fL L) (.slice A l.length cp)=v1)
 (hat:∀τ,fC ((wL L Tryz.prog.types.size W).tp τ) ((wL L Tryz.prog.types.size W).tp τ).heap.size b bv) (pw:∀τ,xJ ((wL L Tryz.prog.types.size W).tp τ) ((wL L Tryz.prog.types.size W).tp τ).heap.size A l) (hcap:GG b bv) {Post:Value->World->Prop}
 (hpost:∀W',W'.tape=W.tape->W'.output=W.output->OsLater W.os W'.os->W.heap.size<=W'.heap.size->(∀b,b<W.heap.size->W'.heap[b]?=W.heap[b]?)->Post (.bool true) W'):
 cS.Ends Tryz.prog Post (solo (G (Frame.enter Tryz.prog 3 #[v0,v1,.bool eO] .normal) []) W) #[]:=by
 have ha:letI:=zi L Tryz.prog.types.size;VS (FA mS pS (fe E0 mS pS) (Bd (aL L) (L.length+1))) #[dY b bv,.slice A l.length cp,.bool eO]:=by
  intro v hv;simp only[List.mem_toArray,List.mem_cons,List.not_mem_nil,or_false]at hv;rcases hv with rfl|rfl|rfl
  .exact hvs _ _ _
  .exact hvp _ _ _
  .simp
 have XJ:letI:=zi L Tryz.prog.types.size;(#[v0,v1,.bool eO]:Array Value)=(#[dY b bv,.slice A l.length cp,.bool eO]:Array Value).map (rv (fL L)):=by simp only[List.map_toArray,List.map_cons,List.map_nil,jZ];rw[Hn,hrp]
 letI:Lo.St:=GS;obtain⟨o0,a1,a2,a3,a4⟩:=tR;obtain⟨o1,b1,b2,b3,b4⟩:=IR;have S8:∀τ,((wL L Tryz.prog.types.size W).tp τ).heap.size=L.length+1:= λτ=>sQ (L:=L) (bad:=Tryz.prog.types.size) (W:=W)
 refine SJ hsh (g:=3) (fn:=Tryz.f3) (code:=Tryz.bodyY) (z:=Tryz.xi) (pT:=Tryz.bodyY) (tb:=3) (id:=3) (ops:=Tryz.B6) (rest:=List.range' 2 9) (o0:=o0) (o1:=o1) (t0:=26) (ats:= #[26]) rfl Tryz.func3 (by decide) (by decide) DM hL ha XJ a1 (MA a4) a2 a3 b1 (MA b4) b2 (by rw[bH];rfl)
  (T:= λo a w=>∃τ,(Dz b=false∧l.length<=40)∧o=b∧yn (L.length+1) ((wL L Tryz.prog.types.size W).tp τ) b bv A l cp eO a w) (N:= λa w=>(Dz b=true∨40<l.length)∧a=⟨#[dY b bv,.slice A l.length cp,.bool eO]++Array.replicate 80 undef,[]⟩∧∃τ,w=(wL L Tryz.prog.types.size W).tp τ) (λo a w hT=>?_) (λa w hN=>by rw[hN.2.1]) (λτ=>?_) (λo a w w' v pv hT hsz hsame bP=>?_) (λa w τ hN=>?_) hpost
 .obtain⟨τ,⟨hg,hl⟩,rfl,hT⟩:=hT;refine⟨Vz hg,hT.d,by rw[hT.sz];decide,bv,?_⟩;have hz:L.length+1<=w.heap.size:=by have :=hT.tU.size;rw[S8]at this;exact this
  obtain⟨l1,l2⟩:=T6 (W:=W) (w:=w) hL hz λx hx=>hT.tU.block x (by rw[S8];exact hx)
  exact⟨⟨_,_,hT.e3,hT.box⟩,yN ((hat τ).keep λx o hx=>E3 (hT.tU.block x hx) o) (by rw[S8];exact hz),_,l1,l2 _ hvs⟩
 .by_cases hx:Dz b=true∨40<l.length
  .exact cS.Z1.here (.inr ⟨_,⟨hx,rfl,τ,rfl⟩,rfl⟩)
  .have hg:Dz b=false:=by
    cases e:Dz b with
    |false=>rfl
    |true=>exact absurd (.inl e) hx
   have hl:l.length<=40:=by
    by_cases e:l.length<=40
    .exact e
    .exact absurd (.inr (by omega)) hx
   obtain⟨fr,w',hT,hs⟩:=@Lo.r8 stA ((wL L Tryz.prog.types.size W).tp τ) (L.length+1) b bv A l cp eO _ Tryz.bodyY rfl (by have :=hat τ;rw[S8]at this;exact this) (by rw[S8];exact Nat.le_refl _) hg hl;refine⟨fr,w',?_,hs⟩;rcases hT with⟨o,a,⟨h1,h2⟩,e⟩|⟨a,h,e⟩
   .exact .inl ⟨o,a,⟨τ,⟨hg,hl⟩,h1,h2⟩,e⟩
   .exact h.elim
 .obtain⟨τ,⟨hg,hl⟩,rfl,hT⟩:=hT;obtain⟨⟨Ap,c,rfl,hp⟩,h16⟩:=CM (Vz hg) bP;have :=@Lo.N6 GS _ _ w' (L.length+1) o bv v A Ap l cp c eO a rI (by have :=hat τ;rw[S8]at this;exact this) (by rw[S8];exact Nat.le_refl _) hcap (Vz hg) hl (by have :=pw τ;rw[S8]at this;exact this) hT hsz hsame hp h16;rw[a3,b3];exact this
 .obtain⟨hx,rfl,cV,rfl⟩:=hN;exact @Lo.E6 GS _ _ b bv A l cp eO rI (hat τ) (Nat.le_refl _) hx
def P4(os:Os)(started:os.Started)(H:Type)(enc:TypeId×Value->H)(F:Stop.Interp):
 ReturnsInLeavingWide Rows.threadProofsRow.assume Tryz.checked os 3 .any (Rows.threadProofsSpec.pre6 enc Tryz.prog Tryz.f3 Rows.threadProofsRow.domain false) ((OpenSpec.ofChange Rows.threadProofsSpec).postWith enc Tryz.prog Tryz.f3 F (outsideKept [.timePasses]) false true false):=by
 refine PR (C:=Tryz.checked) Tryz.knob started Tryz.func3
  (ChangeSpec.witness6c (enc:=enc) (C:=Tryz.checked) ⟨#[],#[.agg #[.slice none 0 0,.slice none 0 0,.slice none 0 0,.slice none 0 0],.slice none 0 0,.bool false],[]⟩ 8 (by kernel_rfl) (by kernel_rfl) (by kernel_rfl) (by kernel_rfl)) ?_
 intro W base args ds gs before hsh hval0 hW _;have hval:∀(j:Nat)t v,Tryz.f3.params[j]?=some t->args[j]?=some v->Value.okWide Tryz.prog W .any base t v:=hval0
 have hW':=hW;obtain⟨p,q,hA0,hV,rfl,hfz,_⟩:=hW;have hA:DataW.TrodAll enc Tryz.prog W 0 (λ_=>true) true Tryz.f3.params.toList args.toList ds p:=hA0;have hAk:=hA;rw[Tryz.params3]at hA hval;obtain⟨rfl,rfl⟩:=trodVars_none hV;obtain⟨l⟩:=args;obtain⟨v0,vs1,d0,ds1,p0,q1,e0,rfl,rfl,h0,hA⟩:=trodAll_cons hA;obtain⟨v1,vs2,d1,ds2,p1,q2,rfl,rfl,rfl,h1,hA⟩:=trodAll_cons hA;obtain⟨v2,vs3,d2,ds3,p2,q3,rfl,rfl,rfl,h2,hA⟩:=trodAll_cons hA;obtain⟨rfl,rfl,rfl⟩:=trodAll_nil hA;have e0:l= [v0,v1,v2]:=e0;subst e0;obtain⟨_,h0⟩:=h0;obtain⟨eO,rfl,rfl,rfl⟩:=open_bool Tryz.underlying4 (hval 2 4 v2 rfl rfl) h2;obtain⟨A3,n3,c3,rfl⟩:=okWide_slice Tryz.underlying27 (hval 1 27 v1 rfl rfl);obtain⟨_,h1⟩:=h1;obtain⟨_,_,_,e,s3⟩:=Vb Tryz.underlying27 LN (by omega) (II Tryz.underlying3) h1;obtain⟨rfl,rfl,rfl⟩:A3=_∧n3=_∧c3=_:=by simpa[Value.cells]using e
 obtain⟨s⟩:=aa1 (hval 0 26 v0 rfl rfl) h0;obtain⟨o,ho,hodd⟩:=ZK hsh;obtain⟨D3,r3,t3,i3⟩:=s3.flat (by omega) TV ho hodd
 obtain⟨ls,l3,g3⟩:∃ls:List Int,ls.length=n3∧(∀i j,i<n3->j<1->D3 i j=.int .i64 ((ls[i]?).getD 0)):=
  ⟨(List.range n3).map λi=>intOf (D3 i 0),by simp, λi j hi hj=>by
    obtain⟨m,hm⟩:=r3 i j hi hj;obtain rfl:j=0:=by omega
    simp[hi,hm,intOf]⟩
 subst l3;obtain⟨b,bv,M,hcap,hM⟩:=am1 ho hodd s;obtain⟨L,hL⟩:∃L,L=M++ [partOf A3 c3 (nS ls.length 1 D3)]:=⟨_,rfl⟩;obtain⟨hlies,hvs,Hn,hat⟩:=hM L [partOf A3 c3 (nS ls.length 1 D3)] hL;have k0:L[M.length]?=some (partOf A3 c3 (nS ls.length 1 D3)):=by rw[hL,List.getElem?_append_right (Nat.le_refl _),Nat.sub_self];rfl
 have hll:∀x∈L,x.h=false->U9 L Tryz.prog.types.size W x:= λx hx hh=>by
  rw[hL]at hx;rcases List.mem_append.1 hx with hx|hx
  .exact hlies x hx hh
  .simp only[List.mem_cons,List.not_mem_nil,or_false]at hx;subst hx;exact(i3 L _).lies (rP t3).2 hh
 refine B8 hsh hll hvs Hn (A:=qy (M.length+1) A3) (l:=ls) (cp:=c3) (λS V cd=>rO (i3 L Tryz.prog.types.size).part k0 s3.le) ?_ hat (λτ=>?_) hcap λW' t1 t2 t3 t4 t5=>⟨?_,t3⟩
 .have e3:=rM (bad:=Tryz.prog.types.size) (i3 L Tryz.prog.types.size).part k0;letI:cS.Sh:=zi L Tryz.prog.types.size;rw[fD,e3]
 .have x3:=Fs k0 (i3 L Tryz.prog.types.size) (by omega) τ;exact x3.conv g3
 .have hbel:Below W.heap.size W { W' with os:=W.os }:=⟨rfl,t1,t2,t4,t5⟩;refine⟨_,_,_,[],_,[],hW',?_,Ei Tryz.laid hbel (λt ht=>?_) hAk (DataW.TrodAll.lt hAk),rfl,hbel.frame _, λh=>by cases h⟩
  .show DataW.TrodAll enc Tryz.prog _ _ _ _ Tryz.f3.resultTypes.toList _ _ _;rw[results11_one];exact trodAll_mk1 (shut_bool Tryz.underlying4 true)
  .have :=List.all_eq_true.1 params11_ok t ht;simpa using this
theorem threadProofs_holds:Rows.ThreadProofsSaid:=
 OpenClaim.holds_of_wide_leaving_time 3 Tryz.f3 rfl rfl rfl rfl rfl rfl rfl ⟨rfl,rfl,rfl,rfl,rfl⟩ rfl rfl rfl rfl rfl (by kernel_rfl) Tryz.func3 (by kernel_rfl)
  (of_decide_eq_true (by kernel_rfl)) (by unfold Func.isWrapper;first|(rw[if_pos (by decide+kernel)];kernel_rfl)|(rw[if_neg (by decide+kernel)];exact⟨rfl,rfl⟩))
  (λos started H enc _ F=>P4 os started H enc F)
end Go.Proofs.YtmjjkglekbfbjaaGreat
