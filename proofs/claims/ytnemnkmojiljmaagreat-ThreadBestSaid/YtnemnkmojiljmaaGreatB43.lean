/- Part 43. -/
import Derived.Test.YtnemnkmojiljmaaGreatB15
set_option maxRecDepth 100000
set_option maxHeartbeats 0
set_option linter.all false
namespace Par
open Go Go.Conc Go.ConcM Go.ConcN
variable [Sh]
def Flat (Q:Program) (q:FuncId) (v0:Value):Prop:=
 ∀(Post:Value->World->Prop) (dead own:Nat->Prop) (W:World) (c:Frame) (K:List Frame),c.mode= .run->Q.globals.size<W.heap.size->
  (∀(rR dL:Nat->Prop) (W':World),W'.tape=W.tape->W'.output=W.output->OsLater W.os W'.os->W.heap.size<=W'.heap.size->(∀b,own b->W'.heap[b]?=W.heap[b]?)->(∀b,own b->dL b)->(∀b,dL b->own b∨W.heap.size<=b)->(∀b,dL b->b<W'.heap.size)->
    jK Q Post rR dL (G (c.finish v0) K) W')->
  jK Q Post dead own (G (Frame.enter Q q #[] .normal) (c::K)) W
def Plain (P:Program) (q:FuncId) (v0:Value):Prop:=
 ∃m,∀(c:Frame) (cs:List Frame) (w:World),c.mode= .run->runN P (m+1) (lone (Frame.enter P q #[] .normal) (c::cs) w)= .next (lone (c.finish v0) cs w)
section
variable {P Q:Program} {S V:FuncId->Bool} {cd:Code->Bool} {D:QJ} {R:Value->World->Prop} {Post:Value->World->Prop} {q:FuncId} {v0:Value}
theorem RJ {K:List Frame} {gz:Frame} (hv0:∀f,rv f v0=v0) (hvs:∀F,vs F v0=true) (hq:∀g,S g=true->Q.funcs[g]?≠P.funcs[g]?->g=q∧V g=false) (hpl:Plain P q v0) (hfl:Flat Q q v0) (hLW:∀b,D.L b->D.eG b) (hgl:Q.globals.size<D.W0.heap.size) (hah:∀b,D.A b=true->Sh.hol b=false):
 Past P Q S V cd true Z0 (λdead=>jK Q Post dead) D K gz:=by
 intro t s h;obtain ⟨g,as,hg,hv,hup,hfr,hne,aq8⟩:=h.ent;obtain ⟨rfl,hV⟩:=hq g hg hne;rw [hV] at hv;obtain rfl:as= #[]:=hv.resolve_left (by simp);obtain ⟨c,up,We⟩:=List.exists_cons_of_ne_nil hup;have Xd:=h.stk;rw [We] at Xd aq8;obtain ⟨_,hcm,hst⟩:=Xd
 have aq9:∃W1,dZ Z0 s.own s.W W1∧¬jK Q Post s.d s.own (G (Frame.enter Q g #[] .normal) (jv s.f c::(up.map (jv s.f)++K))) W1:=by
  apply bq;intro hx;refine aq8 (.stop λW1 hr=>?_);apply bq;intro hy;exact hx ⟨W1,hr,by simpa using hy⟩
 obtain ⟨W1,hr,hnl⟩:=aq9
 have hex:∃(rR dL:Nat->Prop) (W':World),(W'.tape=W1.tape∧W'.output=W1.output∧OsLater W1.os W'.os∧W1.heap.size<=W'.heap.size∧(∀b,s.own b->W'.heap[b]?=W1.heap[b]?)∧(∀b,s.own b->dL b)∧(∀b,dL b->s.own b∨W1.heap.size<=b)∧(∀b,dL b->b<W'.heap.size))∧
  ¬jK Q Post rR dL (G ((jv s.f c).finish v0) (up.map (jv s.f)++K)) W':=by
  apply bq;intro hx;refine hnl (hfl Post s.d s.own W1 (jv s.f c) _ hcm (aK hgl (aT h.since.size hr.size)) λrR dL W' a1 a2 a3 a4 a5 a6 a7 a8=>?_);apply bq;intro hy;exact hx ⟨rR,dL,W',⟨a1,a2,a3,a4,a5,a6,a7,a8⟩,hy⟩
 obtain ⟨rR,dL,W',⟨a1,a2,a3,a4,a5,a6,a7,a8⟩,ar0⟩:=hex;obtain ⟨m,hm⟩:=hpl;have hfc:=hst.top
 have ax5:(jv s.f c).finish v0=jv s.f (c.finish v0):=by
  have :=uL (f:=s.f) c v0 hfc.todo;rw [hv0] at this;exact this
 rw [ax5] at ar0;have hsz:=hr.size
 have hback:∀b,b<s.w.heap.size->D.A b=true->W'.heap[s.f b]?=s.W.heap[s.f b]?:=by
  intro b hb hA;rcases h.img b hb hA with x|x
  ·rw [a5 _ x,hr.own _ x]
  ·exact x.elim
 refine ⟨m,⟨c.finish v0,up,s.w,s.f,dL,W',rR⟩,⟨⟨?_,?_,⟨λb hb hA=>?_, λb o hb ho=>?_⟩,h.n0,h.fid, λb hb hh=>?_,h.YX,h.IY, λb hb hA=>?_, λb o hA ho hl=>(h.lk b o hA ho hl).imp (a6 _) id, λb hb=>a6 _ (h.owns b hb), λb hb=>?_,a8,?_, λb hb=>?_, λτ LJ=>?_⟩, λhgw=>ar0 (jK.walk hgw rfl rfl)⟩,aJ _, λ_ _ _=>rfl⟩
 ·exact hst.set (hfc.finish (hvs _)) (pE c v0)
 ·exact .inl ((sW c v0).trans hcm)
 ·show s.f b<W'.heap.size;have :=h.Ht b hb (hah b (gN.1 hA).1);omega
 ·have hb':=gN.1 hb;have :=h.wr.blk b o hb ho;show BR _ s.f b o W'.heap[s.f b]?
  rw [hback b hb'.2 hb'.1];exact this
 ·show s.f b<W'.heap.size;have :=h.Ht b hb hh;omega
 ·exact (h.img b hb hA).imp (a6 _) id
 ·rcases a7 b hb with x|x
  ·exact h.RY b x
  ·have :=h.since.size;exact .inr (by omega)
 ·exact h.since.trans (hr.since.trans ⟨a1,a2,a3,a4, λ_ x=>x.elim, λ_ x=>x.elim, λ_ _ x=>x.elim⟩)
 ·have :=h.owns b (hLW b hb);show W'.heap[b]?=_
  rw [a5 b this,hr.own b this];exact h.kept b hb
 ·have h1:=h.run τ LJ;rw [hfr,We] at h1;show runN P (t+m+1) _= .next (lone (c.finish v0) (up++ [Par.stk]) (s.w.tp τ))
  rw [Nat.add_assoc,oD,h1];exact hm c (up++ [Par.stk]) (s.w.tp τ) hcm
theorem Inv.last (hQ:Alike P Q) (G0:Ground P S V cd Z0 D) {gz:Frame} (nS:Wj P D.w0 gz R) {t:Nat} {s:St (Nat->Prop)} (h:Inv P Q S V cd true Z0 (λdead=>jK Q Post dead) D [] gz t s) (hf:Fin s.fr s.up) (hmain:∀g,S g=true->Q.inits.idxOf? g=none)
 (hpost:∀v w' f' dL W',R v w'->J2 S V cd Z0 D v w' f' dL W'->Post (rv f' v) W'):False:=by
 refine h.ngw (.stop λW0 hr0=>jK.ret (λW1 hr=>?_) rfl rfl);replace hr:=hr0.trans hr;clear hr0;obtain ⟨v,w1,f1,vF,u,fn,hR,Ud,hres,hsz,rQ,hev,hback⟩:=h.toEx.leave hQ G0 nS hf hr;obtain ⟨hu,hm,hd⟩:=hf;have hfr:=h.stk.top
 have hcomp:stepG Q true (G (jv s.f s.fr) (s.up.map (jv s.f)++ [])) W1= .ended (.done (rv f1 v)) vF (seen Q s.fr.fn u++ #[]):=by
  rw [hu];have m1:(jv s.f s.fr).mode= .returning:=hm;have m2:(jv s.f s.fr).defers= []:=by show s.fr.defers.map (rd s.f)= [];rw [hd];rfl
  have m3:(jv s.f s.fr).fn=s.fr.fn:=rfl;have m5:(jv s.f s.fr).kind= .normal:=hfr.kind;unfold stepG G;simp only [m1];unfold unwind;simp only [m1,m2,m3,Ud,List.map_nil,List.nil_append];rw [hres];unfold doReturn;simp only [m5,m3,hmain _ hfr.fn];rfl
 have hg:grow s.own W1 vF=s.own:=by
  funext x;apply propext;unfold grow;rw [hsz];exact ⟨λh=>h.elim id λh=>by omega,.inl⟩
 refine ⟨rv f1 v,vF,_,hcomp, λe he=>?_,hpost v w1 f1 _ vF hR hback⟩;have :=hev e he;rw [hg] at this;exact this
theorem VE (hQ:Alike P Q) (hv0:∀f,rv f v0=v0) (hvs:∀F,vs F v0=true) (hq:∀g,S g=true->Q.funcs[g]?≠P.funcs[g]?->g=q∧V g=false) (hpl:Plain P q v0) (hfl:Flat Q q v0) (hLW:∀b,D.L b->D.eG b) (hgl:Q.globals.size<D.W0.heap.size)
 (G0:Ground P S V cd Z0 D) (hmain:∀g,S g=true->Q.inits.idxOf? g=none) {g:FuncId} (hg:S g=true) (hgQ:Q.funcs[g]?=P.funcs[g]?) {args args':Array Value} (ha:VS (FA S V cd (Bd D.A D.w0.heap.size)) args) (haa:args'=args.map (rv D.f0))
 (hwr:WR (FA S V cd (Bd D.A D.w0.heap.size)) D.f0 D.w0 D.W0) (hlk:∀(b:Nat) (o:Obj),D.A b=true->D.w0.heap[b]?=some o->¬kT o->D.eG (D.f0 b)∧¬D.L (D.f0 b))
 (nS:∀τ,Calls P g args (D.w0.tp τ) λe w'=>∃v,e= .returned v∧R v w')
 (hpost:∀v w' f' dL W',R v w'->J2 S V cd Z0 D v w' f' dL W'->Post (rv f' v) W') (dead:Nat->Prop):
 jK Q Post dead D.eG (G (Frame.enter Q g args' .normal) []) D.W0:=
 jK.walk (IZ (main:=true) (K:=[]) (Stop:= λd=>jK Q Post d) hQ G0 hg hgQ ha haa hwr hlk nS dead (RJ hv0 hvs hq hpl hfl hLW hgl G0.Xc) λhc _ _ h hf=>h.last hQ G0 hc hf hmain hpost) rfl rfl
end
end Par
