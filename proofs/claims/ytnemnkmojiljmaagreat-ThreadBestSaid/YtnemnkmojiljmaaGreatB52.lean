/- ThreadBest answers true, whatever comes in, on every schedule; its arguments read behind the call as they did: no condition of its own beside the row. Printed by program from longer texts: names are short. -/
import Derived.Test.YtnemnkmojiljmaaGreatB48
import Derived.Test.YtnemnkmojiljmaaGreatB51
set_option maxRecDepth 100000
set_option maxHeartbeats 0
set_option linter.all false
namespace Go.Proofs.YtnemnkmojiljmaaGreat
open Go Go.RowKit Go.ChangeShapes Go.WideShapes Go.ChangeAt Go.Conc Go.ConcM Par Go.Proofs.Tryz
theorem RQ {w:World} {B:Nat} {dK:List (Int×Int)} {cs:List (Int×Int×Int)} {jQ:List Int} {A1 A2 A3:Option Addr} {c1 c2 c3:Nat} (h1:RS w B A1 dK) (h2:RU w B A2 cs) (h3:RdU w B A3 jQ) (hu:U16 jQ) (hB:B<=w.heap.size) (limit:Int):
 Calls lD 10 #[.slice A1 dK.length c1,.slice A2 cs.length c2,.int .i64 limit,.slice A3 jQ.length c3] w λe _=>e= .returned (.bool true):=by
 rw [<-VJ];letI:=PT
 by_cases hno:40<dK.length∨40<cs.length∨eU dK cs limit≠0
 ·exact Lo.Yx Zl h1 h2 hB limit hno
 ·exact Lo.V6 Zl h1 h2 h3 hu hB limit (Classical.not_not.1 λh=>hno (.inr (.inr h)))
theorem MG:(Tryz.f10.params.toList.all λt=>Tryz.prog.readableRec t&&decide (t<Tryz.prog.types.size))=true:=by kernel_rfl
theorem Im:Tryz.f10.resultTypes= #[4]:=by unfold Tryz.f10;rfl
theorem as0:S0 10=true:=by kernel_rfl
theorem q10:Tryz.prog.funcs[10]?=lD.funcs[10]?:=by unfold lD;exact (zo Tryz.prog _ (by decide)).symm
theorem MH (os:Os) (started:os.Started) (H:Type) (enc:TypeId×Value->H) (F:Stop.Interp):
 ReturnsInLeavingWide Rows.threadBestRow.assume Tryz.checked os 10 .any (Rows.threadBestSpec.pre6 enc Tryz.prog Tryz.f10 Rows.threadBestRow.domain false) ((OpenSpec.ofChange Rows.threadBestSpec).postWith enc Tryz.prog Tryz.f10 F (outsideKept [.timePasses]) false true false):=by
 refine EB (C:=Tryz.checked) Tryz.knob started Tryz.func10
  (ChangeSpec.witness6c (enc:=enc) (C:=Tryz.checked) ⟨#[],#[.slice none 0 0,.slice none 0 0,.int .i64 0,.slice none 0 0],[]⟩ 8 (by kernel_rfl) (by kernel_rfl) (by kernel_rfl) (by kernel_rfl)) ?_
 intro W base args ds gs before hsh hval0 hW _;have hval:∀(j:Nat) t v,Tryz.f10.params[j]?=some t->args[j]?=some v->Value.okWide Tryz.prog W .any base t v:=hval0
 have hW':=hW;obtain ⟨p,q,hA0,hV,rfl,hfz,_⟩:=hW;have hA:DataW.TrodAll enc Tryz.prog W 0 (λ_=>true) true Tryz.f10.params.toList args.toList ds p:=hA0;have hAk:=hA;rw [Tryz.params10] at hA hval;obtain ⟨rfl,rfl⟩:=trodVars_none hV;obtain ⟨l⟩:=args;obtain ⟨v0,vs1,d0,ds1,p0,q1,e0,rfl,rfl,h0,hA⟩:=trodAll_cons hA;obtain ⟨v1,vs2,d1,ds2,p1,q2,rfl,rfl,rfl,h1,hA⟩:=trodAll_cons hA;obtain ⟨v2,vs3,d2,ds3,p2,q3,rfl,rfl,rfl,h2,hA⟩:=trodAll_cons hA;obtain ⟨v3,vs4,d3,ds4,p3,q4',rfl,rfl,rfl,h3,hA⟩:=trodAll_cons hA;obtain ⟨rfl,rfl,rfl⟩:=trodAll_nil hA;have e0:l= [v0,v1,v2,v3]:=e0;subst e0;obtain ⟨A1,n1,c1,rfl⟩:=okWide_slice Tryz.underlying29 (hval 0 29 v0 rfl rfl);obtain ⟨A2,n2,c2,rfl⟩:=okWide_slice Tryz.underlying65 (hval 1 65 v1 rfl rfl);obtain ⟨limit,rfl,rfl,rfl,wl⟩:=open_int Tryz.underlying3 (hval 2 3 v2 rfl rfl) h2;obtain ⟨A3,n3,c3,rfl⟩:=okWide_slice Tryz.underlying43 (hval 3 43 v3 rfl rfl);obtain ⟨_,h0⟩:=h0;obtain ⟨_,h1⟩:=h1;obtain ⟨_,h3⟩:=h3;obtain ⟨_,_,_,e,s1⟩:=Kn Tryz.underlying29 EN (by omega) ar6 h0;obtain ⟨rfl,rfl,rfl⟩:A1=_∧n1=_∧c1=_:=by simpa [Value.cells] using e
 obtain ⟨_,_,_,e,s2⟩:=Kn Tryz.underlying65 Yr (by omega) ay2 h1;obtain ⟨rfl,rfl,rfl⟩:A2=_∧n2=_∧c2=_:=by simpa [Value.cells] using e
 obtain ⟨_,_,_,e,s3⟩:=Kn Tryz.underlying43 Yt (by omega) ay3 h3;obtain ⟨rfl,rfl,rfl⟩:A3=_∧n3=_∧c3=_:=by simpa [Value.cells] using e
 obtain ⟨o,ho,hodd⟩:=VU hsh;obtain ⟨D1,r1,t1,i1⟩:=s1.flat (by omega) VV ho hodd;obtain ⟨D2,r2,t2,i2⟩:=s2.flat (by omega) VV ho hodd;obtain ⟨D3,r3,t3,i3⟩:=s3.flat (by omega) ah7 ho hodd;obtain ⟨L,hL⟩:∃L,L= [partOf A1 c1 (ym n1 2 D1),partOf A2 c2 (ym n2 3 D2),partOf A3 c3 (ym n3 1 D3)]:=⟨_,rfl⟩;have k0:L[0]?=some (partOf A1 c1 (ym n1 2 D1)):=by rw [hL];rfl
 have k1:L[1]?=some (partOf A2 c2 (ym n2 3 D2)):=by rw [hL];rfl
 have k2:L[2]?=some (partOf A3 c3 (ym n3 1 D3)):=by rw [hL];rfl
 obtain ⟨dK,l1,g1⟩:∃dK:List (Int×Int),dK.length=n1∧∀i j,i<n1->j<2->D1 i j=II dK i j:=
  ⟨(List.range n1).map λi=>(intOf (D1 i 0),intOf (D1 i 1)),by simp, λi j hi hj=>by
    obtain ⟨m,hm⟩:=r1 i j hi hj;rcases j with _|_|j
    ·simp [II,hi,hm,intOf]
    ·simp [II,hi,hm,intOf]
    ·omega⟩
 obtain ⟨cs,l2,g2⟩:∃cs:List (Int×Int×Int),cs.length=n2∧∀i j,i<n2->j<3->D2 i j=cutAt cs i j:=
  ⟨(List.range n2).map λi=>(intOf (D2 i 0),intOf (D2 i 1),intOf (D2 i 2)),by simp, λi j hi hj=>by
    obtain ⟨m,hm⟩:=r2 i j hi hj;rcases j with _|_|_|j
    ·simp [cutAt,hi,hm,intOf]
    ·simp [cutAt,hi,hm,intOf]
    ·simp [cutAt,hi,hm,intOf]
    ·omega⟩
 obtain ⟨jQ,l3,g3,hu⟩:∃jQ:List Int,jQ.length=n3∧(∀i j,i<n3->j<1->D3 i j=MC jQ i j)∧U16 jQ:=
  ⟨(List.range n3).map λi=>intOf (D3 i 0),by simp, λi j hi hj=>by
    obtain ⟨m,hm,_⟩:=r3 i j hi hj;obtain rfl:j=0:=by omega
    simp [MC,hi,hm,intOf], λx hx=>by
    obtain ⟨i,hi,rfl⟩:=List.mem_map.1 hx;obtain ⟨m,hm,hw⟩:=r3 i 0 (by simpa using hi) (by omega);rw [hm];simp [Lit.wf,IntKind.min,IntKind.max,IntKind.signed,IntKind.bits] at hw;simp only [intOf];omega⟩
 subst l1 l2 l3
 have hlies:∀x∈L,x.h=false->Yn L Tryz.prog.types.size W x:= λx hx hh=>by
  rw [hL] at hx;simp only [bE,ax,or_false] at hx;rcases hx with rfl|rfl|rfl
  ·exact (i1 L _).lies (CK t1).2 hh
  ·exact (i2 L _).lies (CK t2).2 hh
  ·exact (i3 L _).lies (CK t3).2 hh
 refine Yu hsh (L:=L) as0 q10 hlies (args:= #[.slice (He 1 A1) dK.length c1,.slice (He 2 A2) cs.length c2,.int .i64 limit,.slice (He 3 A3) jQ.length c3]) ?_ ?_ (λτ=>?_) λW' t1 t2 t3 t4 t5=>⟨?_,t3⟩
 ·intro v hv;simp only [aB,bE,ax,or_false] at hv;rcases hv with rfl|rfl|rfl|rfl
  ·exact Hg (i1 L Tryz.prog.types.size).part k0 s1.le
  ·exact Hg (i2 L Tryz.prog.types.size).part k1 s2.le
  ·simp
  ·exact Hg (i3 L Tryz.prog.types.size).part k2 s3.le
 ·have e1:=Hf (bad:=Tryz.prog.types.size) (i1 L Tryz.prog.types.size).part k0;have e2:=Hf (bad:=Tryz.prog.types.size) (i2 L Tryz.prog.types.size).part k1;have e3:=Hf (bad:=Tryz.prog.types.size) (i3 L Tryz.prog.types.size).part k2;simp only [List.map_toArray,aC,List.map_nil,fT,jE];rw [e1,e2,e3]
 ·have x1:=VW k0 (i1 L Tryz.prog.types.size) (by omega) τ;have x2:=VW k1 (i2 L Tryz.prog.types.size) (by omega) τ;have x3:=VW k2 (i3 L Tryz.prog.types.size) (by omega) τ;exact RQ (x1.conv g1) (x2.conv g2) (x3.conv g3) hu (aJ _) limit
 ·have hbel:Below W.heap.size W { W' with os:=W.os }:=⟨rfl,t1,t2,t4,t5⟩;refine ⟨_,_,_,[],_,[],hW',?_,Aq Tryz.laid hbel (λt ht=>?_) hAk (DataW.TrodAll.lt hAk),rfl,hbel.frame _, λh=>by cases h⟩
  ·show DataW.TrodAll enc Tryz.prog _ _ _ _ Tryz.f10.resultTypes.toList _ _ _;rw [Im];exact trodAll_mk1 (shut_bool Tryz.underlying4 true)
  ·have :=bG.1 MG t ht;simpa using this
theorem threadBest_holds:Rows.ThreadBestSaid:=
 OpenClaim.holds_of_wide_leaving_time 10 Tryz.f10 rfl rfl rfl rfl rfl rfl rfl ⟨rfl,rfl,rfl,rfl,rfl⟩ rfl rfl rfl rfl rfl (by kernel_rfl) Tryz.func10 (by kernel_rfl)
  (of_decide_eq_true (by kernel_rfl)) (by unfold Func.isWrapper;first |(rw [aj (by decide+kernel)];kernel_rfl)|(rw [aa (by decide+kernel)];exact ⟨rfl,rfl⟩))
  (λos started H enc _ F=>MH os started H enc F)
end Go.Proofs.YtnemnkmojiljmaaGreat
