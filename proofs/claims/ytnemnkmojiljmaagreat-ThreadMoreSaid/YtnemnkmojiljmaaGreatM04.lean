/- ThreadMore answers true, whatever comes in, on every schedule; its arguments read behind the call as they did: no condition of its own beside the row. Printed by program from longer texts: names are short. -/
import Derived.Test.YtnemnkmojiljmaaGreatH34
import Derived.Test.YtnemnkmojiljmaaGreatM03
set_option maxRecDepth 100000
set_option maxHeartbeats 0
set_option linter.all false
namespace Go.Proofs.YtnemnkmojiljmaaGreat
open Go Go.RowKit Go.ChangeShapes Go.WideShapes Go.ChangeAt Go.Conc Go.ConcM Par Go.Proofs.Tryz
theorem az2 {w:World} {B:Nat} {b:dO} {v:gJ} {x:jD} {limit:Int} {A:Option Addr} {pk:List Int} {cp:Nat} (hb:fC w B b v) (hB:B<=w.heap.size) (hc:GG b v) (hl:0<=limit∧limit<65536) (hp:RdU w B A pk) (hu:U16 pk):
 Calls jY 8 #[dY b v,av8 x,.int .u16 limit,.slice A pk.length cp] w λe _=>e= .returned (.bool true):=by
 rw [<-ZF];letI:=TP;exact Lo.az1 as8 hb hB hc hl hp hu
theorem ax9:(Tryz.f8.params.toList.all λt=>Tryz.prog.readableRec t&&decide (t<Tryz.prog.types.size))=true:=by kernel_rfl
theorem aw6:Tryz.f8.resultTypes= #[4]:=by kernel_rfl
theorem aA7:S0 8=true:=by kernel_rfl
theorem q8:Tryz.prog.funcs[8]?=jY.funcs[8]?:=by unfold jY;exact (zg Tryz.prog _ (by decide)).symm
theorem ay0 {H:Type} {enc:TypeId×Value->H} {W:World} {base:Nat} {v:Value} (hok:Value.okWide Tryz.prog W .any base 59 v) {fuel:Nat} {x:DataW H×List MemPlace} (h:DataW.trod enc Tryz.prog W 0 (λ_=>true) true fuel 59 v.cells.toList=some x):∃s:jD,v=av8 s:=by
 obtain ⟨cs,rfl,hsz⟩:=okWide_struct Tryz.underlying59 hok;rw [We] at hsz;obtain ⟨l⟩:=cs;have hE:=as1 (enc:=enc) (W:=W) _ _ _ h;have hl:l.length=3:=by simpa using hsz
 obtain ⟨v0,v1,v2,rfl⟩:∃v0 v1 v2,l= [v0,v1,v2]:=by
  rcases l with _|⟨a,_|⟨b,_|⟨c,_|⟨d,l⟩⟩⟩⟩<;>simp at hl;exact ⟨_,_,_,rfl⟩
 obtain ⟨u0,e0,a,rfl⟩:=hE 0 (by omega);obtain ⟨u1,e1,b,rfl⟩:=hE 1 (by omega);obtain ⟨u2,e2,c,rfl⟩:=hE 2 (by omega);simp [Value.cells] at e0 e1 e2;subst e0 e1 e2;exact ⟨⟨a,b,c⟩,rfl⟩
theorem ax3 (os:Os) (started:os.Started) (H:Type) (enc:TypeId×Value->H) (F:Stop.Interp):
 ReturnsInLeavingWide Rows.threadMoreRow.assume Tryz.checked os 8 .any (Rows.threadMoreSpec.pre6 enc Tryz.prog Tryz.f8 Rows.threadMoreRow.domain false) ((OpenSpec.ofChange Rows.threadMoreSpec).postWith enc Tryz.prog Tryz.f8 F (outsideKept [.timePasses]) false true false):=by
 refine PR (C:=Tryz.checked) Tryz.knob started Tryz.func8
  (ChangeSpec.witness6c (enc:=enc) (C:=Tryz.checked) ⟨#[],#[.agg #[.slice none 0 0,.slice none 0 0,.slice none 0 0,.slice none 0 0],.agg #[.int .i64 0,.int .i64 0,.int .i64 0],.int .u16 0,.slice none 0 0],[]⟩ 8 (by kernel_rfl) (by kernel_rfl) (by kernel_rfl) (by kernel_rfl)) ?_
 intro W base args ds gs before hsh hval0 hW _;have hval:∀(j:Nat) t v,Tryz.f8.params[j]?=some t->args[j]?=some v->Value.okWide Tryz.prog W .any base t v:=hval0
 have hW':=hW;obtain ⟨p,q,hA0,hV,rfl,hfz,_⟩:=hW;have hA:DataW.TrodAll enc Tryz.prog W 0 (λ_=>true) true Tryz.f8.params.toList args.toList ds p:=hA0;have hAk:=hA;rw [Tryz.params8] at hA hval;obtain ⟨rfl,rfl⟩:=trodVars_none hV;obtain ⟨l⟩:=args;obtain ⟨v0,vs1,d0,ds1,p0,q1,e0,rfl,rfl,h0,hA⟩:=trodAll_cons hA;obtain ⟨v1,vs2,d1,ds2,p1,q2,rfl,rfl,rfl,h1,hA⟩:=trodAll_cons hA;obtain ⟨v2,vs3,d2,ds3,p2,q3,rfl,rfl,rfl,h2,hA⟩:=trodAll_cons hA;obtain ⟨v3,vs4,d3,ds4,p3,q4',rfl,rfl,rfl,h3,hA⟩:=trodAll_cons hA;obtain ⟨rfl,rfl,rfl⟩:=trodAll_nil hA;have e0:l= [v0,v1,v2,v3]:=e0;subst e0;obtain ⟨_,h0⟩:=h0;obtain ⟨_,h1⟩:=h1;obtain ⟨xs,rfl⟩:=ay0 (hval 1 59 v1 rfl rfl) h1;obtain ⟨limit,rfl,rfl,rfl,wt⟩:=open_int Tryz.underlying42 (hval 2 42 v2 rfl rfl) h2
 have hpl:0<=limit∧limit<65536:=by
  simp [Lit.wf,IntKind.min,IntKind.max,IntKind.signed,IntKind.bits] at wt;omega
 obtain ⟨A3,n3,c3,rfl⟩:=okWide_slice Tryz.underlying43 (hval 3 43 v3 rfl rfl);obtain ⟨_,h3⟩:=h3;obtain ⟨_,_,_,e,s3⟩:=Vb Tryz.underlying43 al9 (by omega) av0 h3;obtain ⟨rfl,rfl,rfl⟩:A3=_∧n3=_∧c3=_:=by simpa [Value.cells] using e
 obtain ⟨s⟩:=aa1 (hval 0 26 v0 rfl rfl) h0;obtain ⟨o,ho,hodd⟩:=ZK hsh;obtain ⟨D3,r3,t3,i3⟩:=s3.flat (by omega) ar9 ho hodd
 obtain ⟨av3,l3,g3,hu⟩:∃av3:List Int,av3.length=n3∧(∀i j,i<n3->j<1->D3 i j=ay6 av3 i j)∧U16 av3:=
  ⟨(List.range n3).map λi=>intOf (D3 i 0),by simp, λi j hi hj=>by
    obtain ⟨m,hm,_⟩:=r3 i j hi hj;obtain rfl:j=0:=by omega
    simp [ay6,hi,hm,intOf], λx hx=>by
    obtain ⟨i,hi,rfl⟩:=List.mem_map.1 hx;obtain ⟨m,hm,hw⟩:=r3 i 0 (by simpa using hi) (by omega);rw [hm];simp [Lit.wf,IntKind.min,IntKind.max,IntKind.signed,IntKind.bits] at hw;simp only [intOf];omega⟩
 subst l3;obtain ⟨b,bv,M,hcap,hM⟩:=am1 ho hodd s;obtain ⟨L,hL⟩:∃L,L=M++ [partOf A3 c3 (nS av3.length 1 D3)]:=⟨_,rfl⟩;obtain ⟨hlies,hvs,hrv,hat⟩:=hM L [partOf A3 c3 (nS av3.length 1 D3)] hL;have k0:L[M.length]?=some (partOf A3 c3 (nS av3.length 1 D3)):=by rw [hL,List.getElem?_append_right (aJ _),Nat.sub_self];rfl
 have hll:∀x∈L,x.h=false->U9 L Tryz.prog.types.size W x:= λx hx hh=>by
  rw [hL] at hx;rcases List.mem_append.1 hx with hx|hx
  ·exact hlies x hx hh
  ·simp only [bD,ax,or_false] at hx;subst hx;exact (i3 L _).lies (rP t3).2 hh
 refine am0 hsh (L:=L) aA7 q8 hll (args:= #[dY b bv,av8 xs,.int .u16 limit,.slice (qy (M.length+1) A3) av3.length c3]) ?_ ?_ (λτ=>?_) λW' t1 t2 t3 t4 t5=>⟨?_,t3⟩
 ·intro v hv;simp only [aB,bD,ax,or_false] at hv;rcases hv with rfl|rfl|rfl|rfl
  ·exact hvs _ _ _
  ·letI:=zi L Tryz.prog.types.size;refine lV.2 λy hy=>?_
   simp only [aB,bD,ax,or_false] at hy;rcases hy with rfl|rfl|rfl<;>simp
  ·simp
  ·exact rO (i3 L Tryz.prog.types.size).part k0 s3.le
 ·have e3:=rM (bad:=Tryz.prog.types.size) (i3 L Tryz.prog.types.size).part k0;simp only [List.map_toArray,aC,List.map_nil,iC,fD];rw [hrv,e3];simp [av8]
 ·have x3:=Fs k0 (i3 L Tryz.prog.types.size) (by omega) τ;exact az2 (hat τ) (aJ _) hcap hpl (x3.conv g3) hu
 ·have hbel:Below W.heap.size W { W' with os:=W.os }:=⟨rfl,t1,t2,t4,t5⟩;refine ⟨_,_,_,[],_,[],hW',?_,Ei Tryz.laid hbel (λt ht=>?_) hAk (DataW.TrodAll.lt hAk),rfl,hbel.frame _, λh=>by cases h⟩
  ·show DataW.TrodAll enc Tryz.prog _ _ _ _ Tryz.f8.resultTypes.toList _ _ _;rw [aw6];exact trodAll_mk1 (shut_bool Tryz.underlying4 true)
  ·have :=bF.1 ax9 t ht;simpa using this
theorem threadMore_holds:Rows.ThreadMoreSaid:=
 OpenClaim.holds_of_wide_leaving_time 8 Tryz.f8 rfl rfl rfl rfl rfl rfl rfl ⟨rfl,rfl,rfl,rfl,rfl⟩ rfl rfl rfl rfl rfl (by kernel_rfl) Tryz.func8 (by kernel_rfl)
  (of_decide_eq_true (by kernel_rfl)) (by unfold Func.isWrapper;first |(rw [aj (by decide+kernel)];kernel_rfl)|(rw [aa (by decide+kernel)];exact ⟨rfl,rfl⟩))
  (λos started H enc _ F=>ax3 os started H enc F)
end Go.Proofs.YtnemnkmojiljmaaGreat
