/- Part 44. -/
import Derived.Test.YtnemnkmojiljmaaF24
set_option maxRecDepth 100000
set_option maxHeartbeats 8000000
set_option linter.all false
namespace Par
open Go Go.Conc Go.ConcM
attribute [local instance] noSh
theorem qH {As:Nat->Prop} {n b:Nat}:iU As n b=true↔As b∨n<=b:=by
 classical
 exact ⟨λh=>of_decide_eq_true h, λh=>decide_eq_true h⟩
section
variable {P Q:Program} {S:FuncId->Bool} {main:Bool} {Z:eG} {own:Nat->Prop} {W:World}
theorem Je {As:Nat->Prop} {v:Value} {w':World} {f':Nat->Nat} {own':Nat->Prop} {W':World} (hro:∀b,Z.ro b->b<W.heap.size)
 (hb:IW S S (dM P S S) Z (Q6 (λb=>own b∨Z.ro b) own W (iU As W.heap.size)) v w' f' own' W'):Kept Z own W own' W'∧Made W.heap.size w' f' own' W':=by
 have hsz:=nE (λb=>own b∨Z.ro b) W W.tape;have hsz':(Q6 (λb=>own b∨Z.ro b) own W (iU As W.heap.size)).w0.heap.size=W.heap.size:=hsz;have hbd:∀b,W.heap.size<=b->b<w'.heap.size->Bd (iU As W.heap.size) w'.heap.size b=true:= λb h1 h2=>fB.2 ⟨qH.2 (.inr h1),h2⟩
 refine ⟨⟨⟨hb.since.tape,hb.since.out,hb.since.os,hb.since.size, λb h=>hb.kept b (.inl h), λb h=>hb.kept b (.inr h),hb.since.sy,hb.since.cl⟩,hb.owns, λb h=>(hb.Q0 b h).imp id λh2=>⟨h2,hb.XP b h⟩⟩,
  ⟨λb h=>hb.fid b (by rw [hsz'];exact h), λb h1 h2=>?_, λb c e fr h1 hx=>?_, λb o v h1 hc=>?_, λb o h1 hc hf=>?_⟩⟩
 ·have e1:=hb.XO b (by rw [hsz'];exact h1) h2;refine ⟨e1,hb.FP b h2,(hb.img b h2 (qH.2 (.inr h1))).resolve_right λx=>?_⟩;have :=hro _ x;have e1:W.heap.size<=f' b:=e1;omega
 ·have h2:=(aa.1 hx).1;rcases hb.wr.blk b _ (hbd b h1 h2) hx with ⟨_,_,k3,_⟩|⟨_,c',e',tH,fr',k1,k2,k3,_⟩|⟨k1,_⟩
  ·cases k3
  ·cases k1;exact ⟨fr',k3⟩
  ·cases k1
 ·unfold World.cell? at hc;cases hx:w'.heap[b]? with
  |none=>simp only [hx] at hc;cases hc
  |some x=>
   have h2:=(aa.1 hx).1;simp only [hx] at hc;rcases hb.wr.blk b x (hbd b h1 h2) hx with ⟨_,_,k3,k4⟩|⟨_,c,e,fr,fr',rfl,k2,k3,_⟩|⟨k1,_⟩
   ·cases x<;>first |(cases hc;done)|skip
    cases k3
   ·unfold World.cell?;simp only [k3];have hc:c[o]?=some v:=hc
    show (c.map (rv f'))[o]?=_
    rw [Array.getElem?_map,hc];rfl
   ·cases k1
 ·obtain ⟨v,hc⟩:=hc;unfold World.cell? at hc;unfold World.frozen? at hf ⊢;cases hx:w'.heap[b]? with
  |none=>simp only [hx] at hc;cases hc
  |some x=>
   have h2:=(aa.1 hx).1;simp only [hx] at hc hf;rcases hb.wr.blk b x (hbd b h1 h2) hx with ⟨_,_,k3,k4⟩|⟨_,c,e,fr,fr',rfl,k2,k3,k4⟩|⟨k1,_⟩
   ·cases x<;>first |(cases hc;done)|skip
    cases k3
   ·simp only [k3];have hc:c[o]?=some v:=hc
    have ho:=(aa.1 hc).1;have k5:=k4 o ho;simp only [Bool.and_eq_false_iff,decide_eq_false_iff_not] at hf ⊢
    by_cases hq:fr'.1<=o∧o<fr'.2
    ·have :=k5 hq.1 hq.2;omega
    ·omega
   ·cases k1
theorem QO {Stop:(Nat->Prop)->Goroutine->World->Prop} (hQ:Alike P Q) (hh:CS P Q S) (good:∀A:Nat->Bool,lY P (FA S S (dM P S S) A)) (zeros:iF P=true) (jy:P.globals.size<W.heap.size)
 (hown:∀b,own b->b<W.heap.size∧¬Z.sy b∧¬Z.ro b) (hro:∀b,Z.ro b->b<W.heap.size) (hsy:∀b,Z.sy b->b<W.heap.size) (hcl:∀b i,Z.cl b i->Z.sy b) (hnm:¬Z.mute)
 {g:FuncId} (hg:S g=true) {code z:Code} (hc:dM P S S code=true) {a:Act} (hd:a.defers= []) (ha:OnA P S (λ_=>False) W.heap.size a.tmps) {T:Act->World->Prop} (hTd:∀a w,T a w->a.defers= [])
 (hcon:∀w,w.heap.size=W.heap.size->yF P (base g) [] [Par.stk] z T code a w) {K:List Frame}
 (hret:∀a' w' f' own' W',T a' w'->VS (FA S S (dM P S S) (Bd (iU (λ_=>False) W.heap.size) w'.heap.size)) a'.tmps->Kept Z own W own' W'->Made W.heap.size w' f' own' W'->Gw Q main Z Stop own' (G ((base g).at ⟨a'.tmps.map (rv f'),[]⟩ [.code z]) K) W'):
 Gw Q main Z Stop own (G ((base g).at a [.code code]) K) W:=by
 classical
 have hno:∀b,b<W.heap.size->iU (λ_=>False) W.heap.size b=true->False:= λb hb h=>by
  rcases qH.1 h with h|h
  ·exact h
  ·omega
 refine ZF (P:=P) (Q:=Q) (S:=S) (V:=S) (cd:=dM P S S) (L:= λb=>own b∨Z.ro b) (cK:=own) (A:=iU (λ_=>False) W.heap.size) (T:= λfr w=>∃a',fr=(base g).at a' [.code z]∧T a' w) hQ hh
  ⟨good,zeros,jy, λb hb hA=>(hno b hb hA).elim, λb hb=>qH.2 (.inr hb),hown,hro,hsy,hcl, λb hb=>hb.elim (λh=>⟨(hown b h).1,.inr h⟩) (λh=>⟨hro b h,.inl h⟩),hnm⟩
  ⟨λb o hA hL ho=>(hno b (aa.1 ho).1 hA).elim, λb o hA hL ho=>(hno b (aa.1 ho).1 hA).elim⟩ ⟨hg,ha, λi hi=>?_, λd hd'=>?_,rfl, λl hl=>?_⟩ rfl rfl (λfr w h=>?_) (λτ=>?_) λfr w f own' W' hT hf hb=>?_
 ·have hi:i∈ [Item.code code]:=hi;rw [aB] at hi;subst hi;exact hc
 ·have hd':d∈a.defers:=hd';rw [hd] at hd';cases hd'
 ·cases hl
 ·obtain ⟨a',rfl,_⟩:=h;rfl
 ·obtain ⟨a',w',hT,n,hn⟩:=hcon (lw (λb=>own b∨Z.ro b) W τ) (nE _ _ _);exact ⟨n,_,w',⟨a',rfl,hT⟩,hn⟩
 ·obtain ⟨a',rfl,hT⟩:=hT;obtain ⟨k,m⟩:=Je hro hb
  have e:iy f ((base g).at a' [.code z])=(base g).at ⟨a'.tmps.map (rv f),[]⟩ [.code z]:=by
   unfold iy Frame.at;rw [hTd _ _ hT];simp [tX,base]
  rw [e];exact hret a' w f own' W' hT hf.tmps k m
end
end Par
