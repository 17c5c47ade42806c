/- ThreadShares answers true, whatever comes in, on every schedule; its arguments read behind the call as they did: no condition of its own beside the row. Printed by program from longer texts: names are short. -/
import Derived.Test.YtnemnkmojiljmaaF22
import Derived.Test.YtnemnkmojiljmaaF50
set_option maxRecDepth 100000
set_option maxHeartbeats 8000000
set_option linter.all false
section
namespace Go.Proofs.Try
open Go Go.RowKit Go.ChangeShapes Go.WideShapes Go.ChangeAt Go.Conc Go.ConcM Par
open Go.Proofs.Ytnemnkmojiljmaa
attribute [local instance] noSh
def lSh:List FuncId:=[3,5,6,7,8,9,18,19,20,21,22,23,24,25,28,43,44,45,46,47,48,77,78]
def Vk (g:FuncId):Bool:=lSh.contains g
def VSh (g:FuncId):Bool:=lSh.contains g&&g !=5
theorem ad1:lSh.all (He jR Vk VSh)=true:=by kernel_rfl
theorem Xp [Par.Sh] (A:Nat->Bool):lY jR (FA Vk VSh (dM jR Vk VSh) A):=
 Ou (λg hg=>aV.1 ad1 g (by simpa [Vk] using hg)) (λg h=>by simp only [VSh,aR] at h;exact h.1) A
theorem Xq (g:FuncId) (_:Vk g=true) (h:Try.prog.funcs[g]?≠jR.funcs[g]?):g=5∧VSh g=false:=by
 obtain rfl:=an0 g h;exact ⟨rfl,rfl⟩
theorem ad2 (g:FuncId) (hg:Vk g=true):Try.prog.inits.idxOf? g=none:=by
 have h:(lSh.all λg=>Try.prog.inits.idxOf? g==none)=true:=by kernel_rfl
 have :=aV.1 h g (by simpa [Vk] using hg);simpa using this
theorem an7:Vk 3=true:=by kernel_rfl
theorem au3:Try.prog.funcs[3]?=jR.funcs[3]?:=by unfold jR;exact (vL Try.prog _ (by decide)).symm
theorem La {w:World} {B:Nat} {lots:List (Int×Int)} {cs:List (Int×Int×Int)} {A1 A2:Option Addr} {c1 c2:Nat} (h1:Lc w B A1 lots) (h2:Ld w B A2 cs) (hB:B<=w.heap.size) (limit:Int):
 Calls jR 3 #[.slice A1 lots.length c1,.slice A2 cs.length c2,.int .i64 limit] w λe _=>e= .returned (.bool true):=by
 rw [<-UU];exact @Lo.M7 OM w B lots cs A1 A2 c1 c2 an1 h1 h2 hB limit
theorem Nv {W:World} (h:W.ShapedOpen Try.prog) {A1 A2:Option Addr} {c1 c2:Nat} {lots:List (Int×Int)} {cs:List (Int×Int×Int)} {x y:Part} (hx:K6 W x) (hy:K6 W y) (px:PartOf x A1 (xK lots)) (py:PartOf y A2 (wo cs)) (n1:A1=none->lots.length=0) (n2:A2=none->cs.length=0)
 (limit:Int) {Post:Value->World->Prop}
 (hpost:∀W',W'.tape=W.tape->W'.output=W.output->OsLater W.os W'.os->W.heap.size<=W'.heap.size->(∀b,b<W.heap.size->W'.heap[b]?=W.heap[b]?)->Post (.bool true) W'):
 Par.Ends Try.prog Post (solo (G (Frame.enter Try.prog 3 #[.slice A1 lots.length c1,.slice A2 cs.length c2,.int .i64 limit] .normal) []) W) #[]:=by
 have hW:0<W.heap.size:=by obtain ⟨c,fr,h0⟩:=UZ h;exact (aa.1 h0).1
 letI:Par.Sh:=Vj [x,y] Try.prog.types.size;refine iL.start (UY (P:=jR) (Q:=Try.prog) (S:=Vk) (V:=VSh) (cd:=dM jR Vk VSh) (L:=[x,y]) (bad:=Try.prog.types.size) (q:=5) (v0:=.bool true) (g:=3) (args:= #[.slice (K7 1 A1) lots.length c1,.slice (K7 2 A2) cs.length c2,.int .i64 limit]) ac3 (λf=>lC f true) (λF=>vN true) Xq plain0 Nq Xp ac4 OO OO Xl QV ad2 an7 au3 hW (λz hz=>?_) (λv hv=>?_) ?_ (λτ=>?_) hpost) (λb hb=>hb)
 ·simp only [aT,List.not_mem_nil,or_false] at hz;rcases hz with rfl|rfl
  ·exact hx
  ·exact hy
 ·simp only [List.mem_toArray,aT,List.not_mem_nil,or_false] at hv;rcases hv with rfl|rfl|rfl
  ·exact K9 (L:=[x,y]) (k:=0) (by show 0<2;omega) _ _
  ·exact K9 (L:=[x,y]) (k:=1) (by show 1<2;omega) _ _
  ·simp
 ·have e1:=K8 (L:=[x,y]) (bad:=Try.prog.types.size) (k:=0) px rfl;have e2:=K8 (L:=[x,y]) (bad:=Try.prog.types.size) (k:=1) py rfl;simp only [List.map_toArray,List.map_cons,List.map_nil,dY,iG,ru];rw [e1,e2]
 ·exact La (OU (L:=[x,y]) (k:=0) rfl px n1 (λi j hi hj=>Eu _ i j hi hj) τ) (OU (L:=[x,y]) (k:=1) rfl py n2 (λi j hi hj=>Et _ i j hi hj) τ) (aj _) limit
end Go.Proofs.Try
end
section
namespace Go.Proofs.Ytnemnkmojiljmaa
open Go Go.RowKit Go.ChangeShapes Go.WideShapes Go.ChangeAt Go.Conc Go.ConcM Par Go.Proofs.Try
theorem Nw:(Try.f3.params.toList.all λt=>Try.prog.readableRec t&&decide (t<Try.prog.types.size))=true:=by kernel_rfl
theorem Jh:Try.f3.resultTypes= #[4]:=by unfold Try.f3;rfl
theorem shares_lifted (os:Os) (started:os.Started) (H:Type) (enc:TypeId×Value->H) (F:Stop.Interp):
 ReturnsInLeavingWide Rows.threadSharesRow.assume Try.checked os 3 .any (Rows.threadSharesSpec.pre6 enc Try.prog Try.f3 Rows.threadSharesRow.domain false) ((OpenSpec.ofChange Rows.threadSharesSpec).postWith enc Try.prog Try.f3 F (outsideKept [.timePasses]) false true false):=by
 refine Dh (C:=Try.checked) Try.knob started Try.func3
  (ChangeSpec.witness6c (enc:=enc) (C:=Try.checked) ⟨#[],#[.slice none 0 0,.slice none 0 0,.int .i64 0],[]⟩ 8 (by kernel_rfl) (by kernel_rfl) (by kernel_rfl) (by kernel_rfl)) ?_
 intro W base args ds gs before hsh hval0 hW _;have hval:∀(j:Nat) t v,Try.f3.params[j]?=some t->args[j]?=some v->Value.okWide Try.prog W .any base t v:=hval0
 have hW':=hW;obtain ⟨p,q,hA0,hV,rfl,hfz,_⟩:=hW;have hA:DataW.TrodAll enc Try.prog W 0 (λ_=>true) true Try.f3.params.toList args.toList ds p:=hA0;have hAk:=hA;rw [Try.params3] at hA hval;obtain ⟨rfl,rfl⟩:=trodVars_none hV;obtain ⟨l⟩:=args;obtain ⟨v0,vs1,d0,ds1,p0,q1,e0,rfl,rfl,h0,hA⟩:=trodAll_cons hA;obtain ⟨v1,vs2,d1,ds2,p1,q2,rfl,rfl,rfl,h1,hA⟩:=trodAll_cons hA;obtain ⟨v2,vs3,d2,ds3,p2,q3,rfl,rfl,rfl,h2,hA⟩:=trodAll_cons hA;obtain ⟨rfl,rfl,rfl⟩:=trodAll_nil hA;have e0:l= [v0,v1,v2]:=e0;subst e0;obtain ⟨A1,n1,c1,rfl,hc1,hz1,ha1⟩:=Ie Try.underlying22 Try.Dx Yk (hval 0 22 v0 rfl rfl) h0;obtain ⟨A2,n2,c2,rfl,hc2,hz2,ha2⟩:=Ie Try.underlying23 Try.Xn an6 (hval 1 23 v1 rfl rfl) h1;obtain ⟨limit,rfl,rfl,rfl,wl⟩:=open_int Try.underlying3 (hval 2 3 v2 rfl rfl) h2;obtain ⟨lots,X,hl1,hX,pX⟩:=QW hsh ha1;obtain ⟨cs,Y,hl2,hY,pY⟩:=QX hsh ha2;subst hl1;subst hl2;refine Nv hsh hX hY pX pY (λh=>(hz1 h).1) (λh=>(hz2 h).1) limit λW' t1 t2 t3 t4 t5=>⟨?_,t3⟩
 have hbel:Below W.heap.size W { W' with os:=W.os }:=⟨rfl,t1,t2,t4,t5⟩;refine ⟨_,_,_,[],_,[],hW',?_,y7 Try.laid hbel (λt ht=>?_) hAk (DataW.TrodAll.lt hAk),rfl,hbel.frame _, λh=>by cases h⟩
 ·show DataW.TrodAll enc Try.prog _ _ _ _ Try.f3.resultTypes.toList _ _ _;rw [Jh];exact trodAll_mk1 (shut_bool Try.underlying4 true)
 ·have :=aV.1 Nw t ht;simpa using this
theorem threadShares_holds:Rows.ThreadSharesSaid:=
 OpenClaim.holds_of_wide_leaving_time 3 Try.f3 rfl rfl rfl rfl rfl rfl rfl ⟨rfl,rfl,rfl,rfl,rfl⟩ rfl rfl rfl rfl rfl (by kernel_rfl) Try.func3 (by kernel_rfl)
  (of_decide_eq_true (by kernel_rfl)) (by unfold Func.isWrapper;first |(rw [if_pos (by decide+kernel)];kernel_rfl)|(rw [if_neg (by decide+kernel)];exact ⟨rfl,rfl⟩))
  (λos started H enc _ F=>shares_lifted os started H enc F)
end Go.Proofs.Ytnemnkmojiljmaa
end
