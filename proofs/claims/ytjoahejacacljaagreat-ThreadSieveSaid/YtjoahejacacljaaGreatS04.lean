/- ThreadSieve answers true, whatever comes in, on every schedule; its arguments as they were: no condition of its own beside the row. -/
import Derived.Test.YtjoahejacacljaaGreatH32
import Derived.Test.YtjoahejacacljaaGreatS03
set_option maxRecDepth 100000
set_option maxHeartbeats 0
set_option linter.all false
section
namespace Go.Proofs.Tryz
open Go Go.RowKit Go.ChangeShapes Go.WideShapes Go.ChangeAt Go.Conc Go.ConcM cS
def lSv:List FuncId:=l0++ [3,4,6,7,9,12,23,24,25,28,29,30,31,53,54,59,60]
def Sv1(g:FuncId):Bool:=lSv.contains g
def Vv1(g:FuncId):Bool:=lSv.contains g&&g !=5
def lookSv:lSv.all (EK jY Sv1 Vv1)=true:=by kernel_rfl
def good_Sv[cS.Sh](A:Nat->Bool):kL jY (FA Sv1 Vv1 (fe jY Sv1 Vv1) A):=
 Mr (λg hg=>List.all_eq_true.1 lookSv g (by simpa[Sv1]using hg)) (λg h=>by simp only[Vv1,Bool.and_eq_true]at h;exact h.1) A
def haltsSv(g:FuncId)(_:Sv1 g=true)(h:Tryz.prog.funcs[g]?≠jY.funcs[g]?):g=5∧Vv1 g=false:=by obtain rfl:=al0 g h;exact⟨rfl,rfl⟩
def mainSv(g:FuncId)(hg:Sv1 g=true):Tryz.prog.inits.idxOf? g=none:=by
 have h:(lSv.all λg=>Tryz.prog.inits.idxOf? g==none)=true:=by kernel_rfl
 have :=List.all_eq_true.1 h g (by simpa[Sv1]using hg);simpa using this
def run_lawSv{W:World}(h:W.ShapedOpen Tryz.prog){L:List Part}{g:FuncId}(hg:Sv1 g=true)(XI:Tryz.prog.funcs[g]?=jY.funcs[g]?)(hL:∀x∈L,x.h=false->U9 L Tryz.prog.types.size W x)
 {args args':Array Value} (ha:letI:=zi L Tryz.prog.types.size;VS (FA Sv1 Vv1 (fe jY Sv1 Vv1) (Bd (aL L) (L.length+1))) args) (XJ:letI:=zi L Tryz.prog.types.size;args'=args.map (rv (fL L)))
 (kS:∀τ,Calls jY g args ((wL L Tryz.prog.types.size W).tp τ) λe _=>e=.returned (.bool true)) {Post:Value->World->Prop}
 (hpost:∀W',W'.tape=W.tape->W'.output=W.output->OsLater W.os W'.os->W.heap.size<=W'.heap.size->(∀b,b<W.heap.size->W'.heap[b]?=W.heap[b]?)->Post (.bool true) W'):
 cS.Ends Tryz.prog Post (solo (G (Frame.enter Tryz.prog g args' .normal) []) W) #[]:=by
 have hW:0<W.heap.size:=by obtain⟨o,h0,_⟩:=ZK h;exact(Array.getElem?_eq_some_iff.1 h0).1
 letI:cS.Sh:=zi L Tryz.prog.types.size;exact iF.start (Rc (P:=jY) (Q:=Tryz.prog) (S:=Sv1) (V:=Vv1) (cd:=fe jY Sv1 Vv1) (L:=L) (bad:=Tryz.prog.types.size) (q:=5) (v0:=.bool true) (g:=g) (args:=args) ZG (λf=>jZ f true) (λF=>sw true) haltsSv plain0 LH good_Sv ZH NC NC V9 PI mainSv hg XI hW hL ha XJ kS hpost) (λb hb=>hb)
end Go.Proofs.Tryz
end
section
namespace Go.Proofs.YtjoahejacacljaaGreat
open Go Go.RowKit Go.ChangeShapes Go.WideShapes Go.ChangeAt Go.Conc Go.ConcM cS Go.Proofs.Tryz
def sieve_lone{w:World}{B:Nat}{ls pk:List Int}{ps:List (Int×Int)}{A1 A2 A3:Option Addr}{c1 c2 c3:Nat}(h1:xJ w B A1 ls)(h2:YM w B A2 ps)(h3:RdU w B A3 pk)(hu:U16 pk)(hB:B<=w.heap.size):
 Calls jY 3 #[.slice A1 ls.length c1,.slice A2 ps.length c2,.slice A3 pk.length c3] w λe _=>e=.returned (.bool true):=by
 rw[<-ZF];letI:=TP;exact Lo.tsieve_any as8 h1 h2 h3 hu hB
def params1003_ok:(Tryz.f3.params.toList.all λt=>Tryz.prog.readableRec t&&decide (t<Tryz.prog.types.size))=true:=by kernel_rfl
def results1003_one:Tryz.f3.resultTypes= #[4]:=by unfold Tryz.f3;rfl
def s0_1003:Sv1 ((λ(q:FuncId)=>q) (q:=3))=true:=by kernel_rfl
def q1003:Tryz.prog.funcs[3]?=jY.funcs[3]?:=by unfold jY;exact(zg Tryz.prog _ (by decide)).symm
def sieve_lifted(os:Os)(started:os.Started)(H:Type)(enc:TypeId×Value->H)(F:Stop.Interp):
 ReturnsInLeavingWide Rows.threadSieveRow.assume Tryz.checked os 3 .any (Rows.threadSieveSpec.pre6 enc Tryz.prog Tryz.f3 Rows.threadSieveRow.domain false) ((OpenSpec.ofChange Rows.threadSieveSpec).postWith enc Tryz.prog Tryz.f3 F (outsideKept [.timePasses]) false true false):=by
 refine PR (C:=Tryz.checked) Tryz.knob started Tryz.func3
  (ChangeSpec.witness6c (enc:=enc) (C:=Tryz.checked) ⟨#[],#[.slice none 0 0,.slice none 0 0,.slice none 0 0],[]⟩ 8 (by kernel_rfl) (by kernel_rfl) (by kernel_rfl) (by kernel_rfl)) ?_
 intro W base args ds gs before hsh hval0 hW _;have hval:∀(j:Nat)t v,Tryz.f3.params[j]?=some t->args[j]?=some v->Value.okWide Tryz.prog W .any base t v:=hval0
 have hW':=hW;obtain⟨p,q,hA0,hV,rfl,hfz,_⟩:=hW;have hA:DataW.TrodAll enc Tryz.prog W 0 (λ_=>true) true Tryz.f3.params.toList args.toList ds p:=hA0;have hAk:=hA;rw[Tryz.params3]at hA hval;obtain⟨rfl,rfl⟩:=trodVars_none hV;obtain⟨l⟩:=args;obtain⟨v0,vs1,d0,ds1,p0,q1,e0,rfl,rfl,h0,hA⟩:=trodAll_cons hA;obtain⟨v1,vs2,d1,ds2,p1,q2,rfl,rfl,rfl,h1,hA⟩:=trodAll_cons hA;obtain⟨v3,vs4,d3,ds4,p3,q4',rfl,rfl,rfl,h3,hA⟩:=trodAll_cons hA;obtain⟨rfl,rfl,rfl⟩:=trodAll_nil hA;have e0:l= [v0,v1,v3]:=e0;subst e0;obtain⟨A1,n1,c1,rfl⟩:=okWide_slice Tryz.underlying22 (hval 0 _ v0 rfl rfl);obtain⟨A2,n2,c2,rfl⟩:=okWide_slice Tryz.underlying23 (hval 1 _ v1 rfl rfl);obtain⟨A3,n3,c3,rfl⟩:=okWide_slice Tryz.underlying24 (hval 2 _ v3 rfl rfl);obtain⟨_,h0⟩:=h0;obtain⟨_,h1⟩:=h1;obtain⟨_,h3⟩:=h3;obtain⟨_,_,_,e,s1⟩:=Vb Tryz.underlying22 Tryz.cells3 (by omega) (II Tryz.underlying3) h0;obtain⟨rfl,rfl,rfl⟩:A1=_∧n1=_∧c1=_:=by simpa[Value.cells]using e
 obtain⟨_,_,_,e,s2⟩:=Vb Tryz.underlying23 tN (by omega) ar8 h1;obtain⟨rfl,rfl,rfl⟩:A2=_∧n2=_∧c2=_:=by simpa[Value.cells]using e
 obtain⟨_,_,_,e,s3⟩:=Vb Tryz.underlying24 al9 (by omega) av0 h3;obtain⟨rfl,rfl,rfl⟩:A3=_∧n3=_∧c3=_:=by simpa[Value.cells]using e
 obtain⟨o,ho,hodd⟩:=ZK hsh;obtain⟨D1,r1,t1,i1⟩:=s1.flat (by omega) TV ho hodd;obtain⟨D2,r2,t2,i2⟩:=s2.flat (by omega) TV ho hodd;obtain⟨D3,r3,t3,i3⟩:=s3.flat (by omega) ar9 ho hodd;obtain⟨L,hL⟩:∃L,L= [partOf A1 c1 (nS n1 1 D1),partOf A2 c2 (nS n2 2 D2),partOf A3 c3 (nS n3 1 D3)]:=⟨_,rfl⟩;have k0:L[0]?=some (partOf A1 c1 (nS n1 1 D1)):=by rw[hL];rfl
 have k1:L[1]?=some (partOf A2 c2 (nS n2 2 D2)):=by rw[hL];rfl
 have k2:L[2]?=some (partOf A3 c3 (nS n3 1 D3)):=by rw[hL];rfl
 obtain⟨ls,l1,g1⟩:∃ls:List Int,ls.length=n1∧∀i j,i<n1->j<1->D1 i j=.int .i64 ((ls[i]?).getD 0):=
  ⟨(List.range n1).map λi=>intOf (D1 i 0),by simp, λi j hi hj=>by
    obtain⟨m,hm⟩:=r1 i j hi hj;obtain rfl:j=0:=by omega
    simp[hi,hm,intOf]⟩
 obtain⟨ps,l2,g2⟩:∃ps:List (Int×Int),ps.length=n2∧∀i j,i<n2->j<2->D2 i j=Sg ps i j:=
  ⟨(List.range n2).map λi=>(intOf (D2 i 0),intOf (D2 i 1)),by simp, λi j hi hj=>by
    obtain⟨m,hm⟩:=r2 i j hi hj;rcases j with _|_|j
    .simp[Sg,hi,hm,intOf]
    .simp[Sg,hi,hm,intOf]
    .omega⟩
 obtain⟨picks,l3,g3,hu⟩:∃picks:List Int,picks.length=n3∧(∀i j,i<n3->j<1->D3 i j=u16At picks i j)∧U16 picks:=
  ⟨(List.range n3).map λi=>intOf (D3 i 0),by simp, λi j hi hj=>by
    obtain⟨m,hm,_⟩:=r3 i j hi hj;obtain rfl:j=0:=by omega
    simp[u16At,hi,hm,intOf], λx hx=>by
    obtain⟨i,hi,rfl⟩:=List.mem_map.1 hx;obtain⟨m,hm,hw⟩:=r3 i 0 (by simpa using hi) (by omega);rw[hm];simp[Lit.wf,IntKind.min,IntKind.max,IntKind.signed,IntKind.bits]at hw;simp only[intOf];omega⟩
 subst l1 l2 l3
 have hlies:∀x∈L,x.h=false->U9 L Tryz.prog.types.size W x:= λx hx hh=>by
  rw[hL]at hx;simp only[List.mem_cons,List.not_mem_nil,or_false]at hx;rcases hx with rfl|rfl|rfl
  .exact(i1 L _).lies (rP t1).2 hh
  .exact(i2 L _).lies (rP t2).2 hh
  .exact(i3 L _).lies (rP t3).2 hh
 refine run_lawSv hsh (L:=L) s0_1003 q1003 hlies (args:= #[.slice (qy 1 A1) ls.length c1,.slice (qy 2 A2) ps.length c2,.slice (qy 3 A3) picks.length c3]) ?_ ?_ (λτ=>?_) λW' t1 t2 t3 t4 t5=>⟨?_,t3⟩
 .intro v hv;simp only[List.mem_toArray,List.mem_cons,List.not_mem_nil,or_false]at hv;rcases hv with rfl|rfl|rfl
  .exact rO (i1 L Tryz.prog.types.size).part k0 s1.le
  .exact rO (i2 L Tryz.prog.types.size).part k1 s2.le
  .exact rO (i3 L Tryz.prog.types.size).part k2 s3.le
 .have e1:=rM (bad:=Tryz.prog.types.size) (i1 L Tryz.prog.types.size).part k0;have e2:=rM (bad:=Tryz.prog.types.size) (i2 L Tryz.prog.types.size).part k1;have e3:=rM (bad:=Tryz.prog.types.size) (i3 L Tryz.prog.types.size).part k2;simp only[List.map_toArray,List.map_cons,List.map_nil,fD];rw[e1,e2,e3]
 .have x1:=Fs k0 (i1 L Tryz.prog.types.size) (by omega) τ;have x2:=Fs k1 (i2 L Tryz.prog.types.size) (by omega) τ;have x3:=Fs k2 (i3 L Tryz.prog.types.size) (by omega) τ;exact sieve_lone (x1.conv g1) (x2.conv g2) (x3.conv g3) hu (Nat.le_refl _)
 .have hbel:Below W.heap.size W { W' with os:=W.os }:=⟨rfl,t1,t2,t4,t5⟩;refine⟨_,_,_,[],_,[],hW',?_,Ei Tryz.laid hbel (λt ht=>?_) hAk (DataW.TrodAll.lt hAk),rfl,hbel.frame _, λh=>by cases h⟩
  .show DataW.TrodAll enc Tryz.prog _ _ _ _ Tryz.f3.resultTypes.toList _ _ _;rw[results1003_one];exact trodAll_mk1 (shut_bool Tryz.underlying4 true)
  .have :=List.all_eq_true.1 params1003_ok t ht;simpa using this
theorem threadSieve_holds:Rows.ThreadSieveSaid:=
 OpenClaim.holds_of_wide_leaving_time 3 Tryz.f3 rfl rfl rfl rfl rfl rfl rfl ⟨rfl,rfl,rfl,rfl,rfl⟩ rfl rfl rfl rfl rfl (by kernel_rfl) Tryz.func3 (by kernel_rfl)
  (of_decide_eq_true (by kernel_rfl)) (by unfold Func.isWrapper;first|(rw[if_pos (by decide+kernel)];kernel_rfl)|(rw[if_neg (by decide+kernel)];exact⟨rfl,rfl⟩))
  (λos started H enc _ F=>sieve_lifted os started H enc F)
end Go.Proofs.YtjoahejacacljaaGreat
end
