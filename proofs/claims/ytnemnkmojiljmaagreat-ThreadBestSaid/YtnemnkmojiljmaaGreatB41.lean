/- Part 41. -/
import Derived.Test.YtnemnkmojiljmaaGreatB21
set_option maxRecDepth 100000
set_option maxHeartbeats 0
set_option linter.all false
namespace Par
open Go Go.Conc Go.ConcM
attribute [local instance] noSh
theorem sG {As:Nat->Prop} {n b:Nat}:jX As n b=true↔As b∨n<=b:=by
 classical
 exact ⟨λh=>of_decide_eq_true h, λh=>decide_eq_true h⟩
section
variable {P Q:Program} {S:FuncId->Bool} {main:Bool} {Z:gB} {own:Nat->Prop} {W:World}
theorem Ki {As:Nat->Prop} {v:Value} {w':World} {f':Nat->Nat} {dL:Nat->Prop} {W':World} (hro:∀b,Z.ro b->b<W.heap.size)
 (hb:J2 S S (fH P S S) Z (R3 (λb=>own b∨Z.ro b) own W (jX As W.heap.size)) v w' f' dL W'):Kept Z own W dL W'∧Made W.heap.size w' f' dL W':=by
 have hsz:=pG (λb=>own b∨Z.ro b) W W.tape;have hsz':(R3 (λb=>own b∨Z.ro b) own W (jX As W.heap.size)).w0.heap.size=W.heap.size:=hsz;have hbd:∀b,W.heap.size<=b->b<w'.heap.size->Bd (jX As W.heap.size) w'.heap.size b=true:= λb h1 h2=>gN.2 ⟨sG.2 (.inr h1),h2⟩
 refine ⟨⟨⟨hb.since.tape,hb.since.out,hb.since.os,hb.since.size, λb h=>hb.kept b (.inl h), λb h=>hb.kept b (.inr h),hb.since.sy,hb.since.cl⟩,hb.owns, λb h=>(hb.RY b h).imp id λh2=>⟨h2,hb.YY b h⟩⟩,
  ⟨λb h=>hb.fid b (by rw [hsz'];exact h), λb h1 h2=>?_, λb c e fr h1 hx=>?_, λb o v h1 hc=>?_, λb o h1 hc hf=>?_⟩⟩
 ·have e1:=hb.YX b (by rw [hsz'];exact h1) h2;refine ⟨e1,hb.Ht b h2 rfl,(hb.img b h2 (sG.2 (.inr h1))).resolve_right λx=>?_⟩;have :=hro _ x;have e1:W.heap.size<=f' b:=e1;omega
 ·have h2:=(aI.1 hx).1;rcases hb.wr.blk b _ (hbd b h1 h2) hx with ⟨_,_,k3,_⟩|⟨_,c',e',vk,fr',k1,k2,k3,_⟩|⟨k1,_⟩
  ·cases k3
  ·cases k1;exact ⟨fr',k3⟩
  ·cases k1
 ·unfold World.cell? at hc;cases hx:w'.heap[b]? with
  |none=>simp only [hx] at hc;cases hc
  |some x=>
   have h2:=(aI.1 hx).1;simp only [hx] at hc;rcases hb.wr.blk b x (hbd b h1 h2) hx with ⟨_,_,k3,k4⟩|⟨_,c,e,fr,fr',rfl,k2,k3,_⟩|⟨k1,_⟩
   ·cases x<;>first |(cases hc;done)|skip
    cases k3
   ·unfold World.cell?;simp only [k3];have hc:c[o]?=some v:=hc
    show (c.map (rv f'))[o]?=_
    rw [aG,hc];rfl
   ·cases k1
 ·obtain ⟨v,hc⟩:=hc;unfold World.cell? at hc;unfold World.frozen? at hf ⊢;cases hx:w'.heap[b]? with
  |none=>simp only [hx] at hc;cases hc
  |some x=>
   have h2:=(aI.1 hx).1;simp only [hx] at hc hf;rcases hb.wr.blk b x (hbd b h1 h2) hx with ⟨_,_,k3,k4⟩|⟨_,c,e,fr,fr',rfl,k2,k3,k4⟩|⟨k1,_⟩
   ·cases x<;>first |(cases hc;done)|skip
    cases k3
   ·simp only [k3];have hc:c[o]?=some v:=hc
    have ho:=(aI.1 hc).1;have k5:=k4 o ho;simp only [Bool.and_eq_false_iff,decide_eq_false_iff_not] at hf ⊢
    by_cases hq:fr'.1<=o∧o<fr'.2
    ·have :=k5 hq.1 hq.2;omega
    ·omega
   ·cases k1
theorem RG {Stop:(Nat->Prop)->Goroutine->World->Prop} (hQ:Alike P Q) (hh:En P Q S) (good:∀A:Nat->Bool,nM P (FA S S (fH P S S) A)) (gK:jD P=true) (kU:P.globals.size<W.heap.size)
 (hown:∀b,own b->b<W.heap.size∧¬Z.sy b∧¬Z.ro b) (hro:∀b,Z.ro b->b<W.heap.size) (hsy:∀b,Z.sy b->b<W.heap.size) (hcl:∀b i,Z.cl b i->Z.sy b) (hnm:¬Z.mute)
 {g:FuncId} (hg:S g=true) {code z:Code} (hc:fH P S S code=true) {a:Act} (hd:a.defers= []) (ha:OnA P S (λ_=>False) W.heap.size a.tmps) {T:Act->World->Prop} (hTd:∀a w,T a w->a.defers= [])
 (nS:∀w,w.heap.size=W.heap.size->zR P (base g) [] [Par.stk] z T code a w) {K:List Frame}
 (oO:∀a' w' f' dL W',T a' w'->VS (FA S S (fH P S S) (Bd (jX (λ_=>False) W.heap.size) w'.heap.size)) a'.tmps->Kept Z own W dL W'->Made W.heap.size w' f' dL W'->Gw Q main Z Stop dL (G ((base g).at ⟨a'.tmps.map (rv f'),[]⟩ [.code z]) K) W'):
 Gw Q main Z Stop own (G ((base g).at a [.code code]) K) W:=by
 classical
 have hno:∀b,b<W.heap.size->jX (λ_=>False) W.heap.size b=true->False:= λb hb h=>by
  rcases sG.1 h with h|h
  ·exact h
  ·omega
 refine ac6 (P:=P) (Q:=Q) (S:=S) (V:=S) (cd:=fH P S S) (L:= λb=>own b∨Z.ro b) (eG:=own) (A:=jX (λ_=>False) W.heap.size) (T:= λfr w=>∃a',fr=(base g).at a' [.code z]∧T a' w) hQ hh
  ⟨good,gK,kU, λb hb hA=>(hno b hb hA).elim, λb hb=>sG.2 (.inr hb),hown,hro,hsy,hcl, λb hb=>hb.elim (λh=>⟨(hown b h).1,.inr h⟩) (λh=>⟨hro b h,.inl h⟩),hnm⟩
  ⟨λb o hA hL ho=>(hno b (aI.1 ho).1 hA).elim, λb o hA hL ho=>(hno b (aI.1 ho).1 hA).elim⟩ ⟨hg,ha, λi hi=>?_, λd hd'=>?_,rfl, λl hl=>?_⟩ rfl rfl (λfr w h=>?_) (λτ=>?_) λfr w f dL W' hT hf hb=>?_
 ·have hi:i∈ [Item.code code]:=hi;rw [aS] at hi;subst hi;exact hc
 ·have hd':d∈a.defers:=hd';rw [hd] at hd';cases hd'
 ·cases hl
 ·obtain ⟨a',rfl,_⟩:=h;rfl
 ·obtain ⟨a',w',hT,n,hn⟩:=nS (lw (λb=>own b∨Z.ro b) W τ) (pG _ _ _);exact ⟨n,_,w',⟨a',rfl,hT⟩,hn⟩
 ·obtain ⟨a',rfl,hT⟩:=hT;obtain ⟨k,m⟩:=Ki hro hb
  have e:jv f ((base g).at a' [.code z])=(base g).at ⟨a'.tmps.map (rv f),[]⟩ [.code z]:=by
   unfold jv Frame.at;rw [hTd _ _ hT];simp [vE,base]
  rw [e];exact oO a' w f dL W' hT hf.tmps k m
end
end Par
