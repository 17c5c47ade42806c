/- Part 3. -/
import Derived.Conc.Beside
import Derived.Conc.JoinWorld
import Derived.Test.YtnemnkmojiljmaaGreatG02
set_option maxRecDepth 100000
set_option maxHeartbeats 0
set_option linter.all false
namespace Par
open Go Go.Conc Go.ConcM
section
variable [Sh]
structure Kr (S V:FuncId->Bool) (cd:Code->Bool) (Z:gG) (D:Rw) (v:Value) (w':World) (f':Nat->Nat) (dK:Nat->Prop) (W':World):Prop where
 wr:WR (FA S V cd (Bd D.A w'.heap.size)) f' w' W'
 val:vs (FA S V cd (Bd D.A w'.heap.size)) v=true
 n0:D.w0.heap.size<=w'.heap.size
 fid:∀b,b<D.w0.heap.size->f' b=D.f0 b
 IV:∀b,b<w'.heap.size->Sh.hol b=false->f' b<W'.heap.size
 ZO:∀b,D.w0.heap.size<=b->b<w'.heap.size->D.W0.heap.size<=f' b
 Js:∀b c,D.w0.heap.size<=b->b<c->c<w'.heap.size->f' b<f' c
 img:∀b,b<w'.heap.size->D.A b=true->dK (f' b)∨Z.ro (f' b)
 lk:∀(b:Nat) (o:Obj),D.A b=true->w'.heap[b]?=some o->¬lu o->dK (f' b)∧¬D.L (f' b)
 owns:∀b,D.eP b->dK b
 TK:∀b,dK b->D.eP b∨D.W0.heap.size<=b
 ZP:∀b,dK b->b<W'.heap.size
 since:Since Z D.W0 W'
 kept:∀b,D.L b->W'.heap[b]?=D.W0.heap[b]?
section
variable {P Q:Program} {S V:FuncId->Bool} {cd:Code->Bool} {main:Bool} {Z:gG} {δ:Type} {Stop:δ->(Nat->Prop)->Goroutine->World->Prop} {D:Rw} {K:List Frame} {gF:Frame} {R:Value->World->Prop}
theorem ac6 (hnm:¬Z.mute) {A:Nat->Bool} {N:Nat} {f:Nat->Nat} {w1:World} {dK:Nat->Prop} (hown:∀b,b<w1.heap.size->A b=true->dK (f b)∨Z.ro (f b)) (hlk:∀(b:Nat) (o:Obj),A b=true->w1.heap[b]?=some o->¬lu o->dK (f b))
 {e:Event} (hx:ZH (FA S V cd (Bd A N)) w1 e):Rm Z dK (rev f e):=by
 obtain ⟨loc,wr,sy⟩:=e;obtain ⟨hx1,hx2⟩:=hx;refine ⟨hnm,?_⟩;cases loc with
 |cell a=>
  obtain ⟨hA,⟨v,hv⟩,hw⟩:=hx2
  have AU:∃o:Obj,w1.heap[a.block]?=some o:=by
   unfold World.cell? at hv;cases hb:w1.heap[a.block]? with
   |none=>rw [hb] at hv;cases hv
   |some o=>exact ⟨o,rfl⟩
  obtain ⟨o,ho⟩:=AU;have hlt:=(aI.1 ho).1;have hA':=(gU.1 hA).1;refine ⟨hx1,?_⟩;cases wr with
  |true=>
   obtain ⟨o',ho',hl'⟩:=hw rfl;exact .inl (hlk _ o' hA' ho' hl')
  |false=>
   rcases hown _ hlt hA' with x|x
   ·exact .inl x
   ·exact .inr (.inl ⟨x,rfl⟩)
 |obj r=>
  obtain ⟨hA,o,ho,hc⟩:=hx2;have hA':=(gU.1 hA).1;refine ⟨hx1,hlk _ o hA' ho ?_⟩;rintro ⟨c,e,fr,rfl,_⟩;cases hc
 |mark m=>
  have hm:m= .noRoom:=hx2;subst hm;rfl
 |output=>exact hx2.elim
 |goroutines=>exact hx2.elim
theorem Fp.fin (G0:Ground P S V cd Z D) (oD:XA P D.w0 gF R) {t:Nat} {s:St δ} (h:Fp P S V cd Z D gF t s) (hf:Fin s.fr s.up) {τ:Nat->Question->Nat} (Mk:∀j q,j<s.w.drawn->τ j q=s.w.tape j q):
 ∃v,R v (s.w.tp τ)∧s.fr.leaving P (s.w.tp τ) (.returned v):=by
 obtain ⟨n,v,w',fr',h1,h2,h3⟩:=oD τ;have hrun:=h.run τ Mk;obtain ⟨hu,hm,hd⟩:=hf;rw [hu,List.nil_append] at hrun;have hfr:=h.stk.top;obtain ⟨fn,c,hfn,_⟩:=(G0.good _).fit.body s.fr.fn hfr.fn;rcases Nat.lt_trichotomy n t with hlt|heq|hgt
 ·exfalso;obtain ⟨d,hd'⟩:=Nat.exists_eq_add_of_lt hlt;obtain ⟨hm',hd2,hk',fn',hf',_⟩:=h3;rw [hd',show n+d+1=n+(d+1) from rfl,oV,h2] at hrun;exact Ae ⟨fn',hf'⟩ hk' hm' hd2 w' d s.fr [] _ hrun
 ·subst heq;rw [hrun] at h2;obtain ⟨e1,_,e3⟩:=uT (Stepped.next.inj h2);rw [<-e1, <-e3] at h3;rw [<-e3] at h1;exact ⟨v,h1,h3⟩
 ·exfalso;obtain ⟨d,hd'⟩:=Nat.exists_eq_add_of_lt hgt;rw [hd',show t+d+1=t+(d+1) from rfl,oV,hrun] at h2;exact Ae ⟨fn,hfn⟩ hfr.kind hm hd _ d fr' [] w' h2
theorem Fp.leave (hQ:Alike P Q) (G0:Ground P S V cd Z D) (oD:XA P D.w0 gF R) {t:Nat} {s:St δ} (h:Fp P S V cd Z D gF t s) (hf:Fin s.fr s.up) {W1:World} (hr:dZ Z s.own s.W W1):
 ∃v w1 f1 vS u fn,R v w1∧Q.funcs[s.fr.fn]?=some fn∧(results fn (jE s.f s.fr).tmps).runT Q W1 #[]=(.ok (rv f1 v) vS,u)∧vS.heap.size=W1.heap.size∧wM Z s.own W1 vS∧(∀e∈seen Q s.fr.fn u++ #[],Rm Z (grow s.own W1 vS) e)∧
  Kr S V cd Z D v w1 f1 (grow s.own W1 vS) vS:=by
 obtain ⟨f1,hf1⟩:∃f1:Nat->Nat,f1= λb=>if b<s.w.heap.size then s.f b else W1.heap.size+(b - s.w.heap.size):=⟨_,rfl⟩
 obtain ⟨τ,Mk⟩:∃τ:Nat->Question->Nat,τ= λj q=>if j<s.w.drawn then s.w.tape j q else W1.tape (W1.drawn+(j - s.w.drawn)) q:=⟨_,rfl⟩
 have Rx:∀j q,j<s.w.drawn->τ j q=s.w.tape j q:= λj q hj=>by rw [Mk];exact aj hj
 obtain ⟨hRn,hag,am5,e1⟩:=h.agree G0 hr s.w.heap.size (aJ _) hf1 Mk;obtain ⟨v,hR,hlv⟩:=h.fin G0 oD hf Rx;have hfr:=h.stk.top;obtain ⟨_,_,_,fn,hfn,hres⟩:=hlv;have hrT:((results fn s.fr.tmps).runT P (s.w.tp τ) #[]).1= .ok v (s.w.tp τ):=by rw [Sem.runT_fst];exact hres
 have NH:=(BB (P:=P) (F:=FA S V cd (Bd D.A s.w.heap.size)) (f:=f1) hRn fn hfr.tmps).FZ hQ hRn.inj (s.w.tp τ) W1 #[] #[] hag;rcases NH with ⟨b,b1,b2,_⟩|NH
 ·exfalso;rw [hrT] at b2;have b1:s.w.heap.size<=b:=b1;have b2:b<s.w.heap.size:=b2;omega
 generalize hx:(results fn s.fr.tmps).runT P (s.w.tp τ) #[]=x at hrT NH;generalize hy:(results fn (s.fr.tmps.map (rv f1))).runT Q W1 #[]=y at NH;obtain ⟨hh,hq1,hq2⟩:=hQ.get s.fr.fn;obtain ⟨bb,hq3,_⟩:=hq2 fn;have UB:Q.funcs[s.fr.fn]?=some { fn with body:=bb }:=by rw [hq1,hfn,ay,hq3]
 rw [hrT] at NH;obtain ⟨v',vS,hy1,⟨hv',hvs⟩,h4,h5⟩:=NH;have efr:jE f1 s.fr=jE s.f s.fr:=Ec (F:=FA S V cd (Bd D.A s.w.heap.size)) (λb hb=>e1 b (G0.below h.n0 hb)) hfr;obtain ⟨w1,hw1⟩:∃w1,w1=s.w.tp τ:=⟨_,rfl⟩;have h4:Mv (FA S V cd (Bd D.A s.w.heap.size)) f1 (s.w.tp τ) W1 w1 vS:=by rw [hw1];exact h4
 rw [<-hw1] at h5 hR;have ac7:w1.heap.size=s.w.heap.size:=by rw [hw1];rfl
 obtain ⟨kk,hk1,hk2⟩:=h4.size;have hWs:=hr.size;have e2:∀b,s.w.heap.size<=b->f1 b=W1.heap.size+(b - s.w.heap.size):= λb hb=>by rw [hf1];exact aa (by omega)
 have aw4:D.W0.heap.size<=s.W.heap.size:=h.since.size
 have hown:∀b,b<w1.heap.size->D.A b=true->grow s.own W1 vS (f1 b)∨Z.ro (f1 b):=by
  intro b hb hA;rcases bz b s.w.heap.size with hlt|hge
  ·rw [e1 b hlt];exact (h.img b hlt hA).imp xx id
  ·refine .inl (.inr ?_);rw [e2 b hge];omega
 have hlk:∀(b:Nat) (o:Obj),D.A b=true->w1.heap[b]?=some o->¬lu o->grow s.own W1 vS (f1 b)∧¬D.L (f1 b):=by
  intro b o hA ho hl;have hb:=(aI.1 ho).1;have hlt:b<s.w.heap.size:=by omega
  have hx:(s.w.tp τ).heap[b]?=some s.w.heap[b]:=by show s.w.heap[b]?=_;simp [hlt]
  obtain ⟨o1,ho1,hl1,_⟩:=h4.lock b _ hx;rw [ho1] at ho;cases ho;rw [e1 b hlt];have :=h.lk b _ hA hx λy=>hl (hl1.2 y)
  exact ⟨xx this.1,this.2⟩
 have ac4:∀b,grow s.own W1 vS b->D.eP b∨D.W0.heap.size<=b:=by
  intro b hb;rcases hb with hb|hb
  ·exact h.TK b hb
  ·exact .inr (by omega)
 have ac5:∀b,grow s.own W1 vS b->b<vS.heap.size:=by
  intro b hb;rcases hb with hb|hb
  ·have :=h.ZP b hb;omega
  ·exact hb.2
 have hkeep:∀b,b<W1.heap.size->¬s.own b->vS.heap[b]?=W1.heap[b]?:=by
  intro b hb hno;rcases h4.frame b hb with e|⟨b',o,hA,ho,hfb,hl⟩
  ·exact e
  ·exfalso;have ho':s.w.heap[b']?=some o:=ho
   have hlt:=(aI.1 ho').1;have :=(h.lk b' o (gU.1 hA).1 ho' hl).1;rw [<-hfb,e1 b' hlt] at hno;exact hno this
 have hkept:∀b,D.L b->vS.heap[b]?=D.W0.heap[b]?:=by
  intro b hb;have hbL:=G0.lL b hb
  have k1:vS.heap[b]?=W1.heap[b]?:=by
   rcases h4.frame b (by omega) with e|⟨b',o,hA,ho,hfb,hl⟩
   ·exact e
   ·exfalso;have ho':s.w.heap[b']?=some o:=ho
    have hlt:=(aI.1 ho').1;have :=(h.lk b' o (gU.1 hA).1 ho' hl).2;rw [<-hfb,e1 b' hlt] at hb;exact this hb
  rw [k1, <-h.kept b hb];rcases hbL.2 with x|x
  ·exact hr.ro b x
  ·exact hr.own b (h.owns b x)
 have XB:∀b,Z.sy b->¬s.own b:=by
  intro b hb ho;rcases h.TK b ho with x|x
  ·exact (G0.own b x).2.1 hb
  ·have :=G0.sy b hb;omega
 have nro:∀b,Z.ro b->¬s.own b:=by
  intro b hb ho;rcases h.TK b ho with x|x
  ·exact (G0.own b x).2.2 hb
  ·have :=G0.ro b hb;omega
 have su:wM Z s.own W1 vS:=by
  refine ⟨h4.tape',h4.out',h4.os',by omega, λb hb hno _=>hkeep b hb hno, λb hb=>?_⟩;have hbl:=G0.sy b hb;have e:=hkeep b (by omega) (XB b hb);refine ⟨by rw [e];exact y9.refl _, λi _=>?_⟩;unfold World.cell?;simp only [e]
 have hev:∀e∈seen Q s.fr.fn y.2++ #[],Rm Z (grow s.own W1 vS) e:=by
  obtain ⟨u,hu1,hu2,hu3⟩:=h5;intro e he;rw [Array.append_empty] at he;have he:=mem_seen he;rw [hu2] at he;simp only [Array.empty_append,Array.mem_map] at he;obtain ⟨e0,he0,rfl⟩:=he;exact ac6 G0.nm hown (λb o h1 h2 h3=>(hlk b o h1 h2 h3).1) (hu3 e0 he0)
 refine ⟨v,w1,f1,vS,y.2,_,hR,UB,?_,by have e9:(s.w.tp τ).heap.size=s.w.heap.size:=rfl;omega,su,hev,?_⟩
 ·have m4:(jE f1 s.fr).tmps=s.fr.tmps.map (rv f1):=rfl;have hy':(results { fn with body:=bb } (s.fr.tmps.map (rv f1))).runT Q W1 #[]=y:=hy;rw [<-efr,m4,hy', <-hv', <-hy1]
 refine ⟨?_,?_,by rw [ac7];exact h.n0, λb hb=>?_, λb hb hh=>?_, λb hb hb2=>?_, λb c hb0 hbc hc=>?_,hown,hlk, λb hb=>xx (h.owns b hb),ac4,ac5,?_,hkept⟩
 ·rw [ac7];exact h4.ag.wr
 ·rw [ac7];exact hvs
 ·rw [e1 b (aK hb h.n0)];exact h.fid b hb
 ·rw [e1 b (by omega)];have :=h.IV b (by omega) hh;omega
 ·rw [e1 b (by omega)];exact h.ZO b hb (by omega)
 ·rw [e1 c (by omega),e1 b (by omega)];exact h.Js b c hb0 hbc (by omega)
 ·refine h.since.trans (hr.since.trans ⟨h4.tape',h4.out',by rw [h4.os'];exact OsLater.refl _,by omega, λb hb=>hkeep b (by have :=G0.ro b hb;omega) (nro b hb), λb hb=>?_, λb i hb=>?_⟩)
  ·rw [hkeep b (by have :=G0.sy b hb;omega) (XB b hb)];exact y9.refl _
  ·have hsy:=G0.cl b i hb;have e:=hkeep b (by have :=G0.sy b hsy;omega) (XB b hsy);unfold World.cell?;simp only [e]
theorem Inv.back (hQ:Alike P Q) (G0:Ground P S V cd Z D) (oD:XA P D.w0 gF R) {t:Nat} {s:St δ} {c:Frame} {K':List Frame} (h:Inv P Q S V cd main Z Stop D (c::K') gF t s) (hf:Fin s.fr s.up)
 (pK:∀d v w' f' dK W',R v w'->Kr S V cd Z D v w' f' dK W'->Gw Q main Z (Stop d) dK (G (c.finish (rv f' v)) K') W'):False:=by
 refine h.ngw (Gw.CF rfl λW1 hr=>?_);obtain ⟨v,w1,f1,vS,u,fn,hR,UB,hres,hsz,su,hev,hback⟩:=h.toFp.leave hQ G0 oD hf hr;obtain ⟨hu,hm,hd⟩:=hf;have hfr:=h.stk.top
 have hcomp:stepG Q main (G (jE s.f s.fr) (s.up.map (jE s.f)++c::K')) W1= .go (G (c.finish (rv f1 v)) K') vS (seen Q s.fr.fn u++ #[]):=by
  rw [hu];have m1:(jE s.f s.fr).mode= .returning:=hm;have m2:(jE s.f s.fr).defers= []:=by show s.fr.defers.map (rd s.f)= [];rw [hd];rfl
  have m3:(jE s.f s.fr).fn=s.fr.fn:=rfl;have m5:(jE s.f s.fr).kind= .normal:=hfr.kind;unfold stepG G;simp only [m1];unfold unwind;simp only [m1,m2,m3,UB,List.map_nil,List.nil_append];rw [hres];unfold doReturn;simp only [m5];rfl
 exact ⟨_,_,_,hcomp,su,hev,pK s.d v w1 f1 _ vS hR hback⟩
end
end
section
variable [Sh]
section
variable {P Q:Program} {S V:FuncId->Bool} {cd:Code->Bool} {main:Bool} {Z:gG} {δ:Type} {Stop:δ->(Nat->Prop)->Goroutine->World->Prop} {D:Rw} {K:List Frame} {gF:Frame} {R:Value->World->Prop}
def Past (P Q:Program) (S V:FuncId->Bool) (cd:Code->Bool) (main:Bool) (Z:gG) {δ:Type} (Stop:δ->(Nat->Prop)->Goroutine->World->Prop) (D:Rw) (K:List Frame) (gF:Frame):Prop:=
 ∀t s,AtQ P Q S V cd main Z Stop D K gF t s->∃k s',Inv P Q S V cd main Z Stop D K gF (t+k+1) s'∧s.w.drawn<=s'.w.drawn∧∀j q,j<s.w.drawn->s'.w.tape j q=s.w.tape j q
theorem am7 (hQ:Alike P Q) (G0:Ground P S V cd Z D) (oD:XA P D.w0 gF R) {s0:St δ} (h0:Inv P Q S V cd main Z Stop D K gF 0 s0) (hpast:Past P Q S V cd main Z Stop D K gF)
 (nf:∀{t s},Inv P Q S V cd main Z Stop D K gF t s->¬Fin s.fr s.up):False:=by
 classical
 have nx:∀(x:{ p:Nat×St δ // Inv P Q S V cd main Z Stop D K gF p.1 p.2 }),∃y:{ p:Nat×St δ // Inv P Q S V cd main Z Stop D K gF p.1 p.2 },x.1.1<y.1.1∧x.1.2.w.drawn<=y.1.2.w.drawn∧∀j q,j<x.1.2.w.drawn->y.1.2.w.tape j q=x.1.2.w.tape j q:=by
  rintro ⟨⟨t,s⟩,h⟩;obtain ⟨s',h1,h2,h3⟩:=h.next hQ G0 oD (nf h);rcases h1 with h1|h1
  ·exact ⟨⟨(t+1,s'),h1⟩,Nat.lt_succ_self t,h2,h3⟩
  ·obtain ⟨k,s'',h4,h5,h6⟩:=hpast _ _ h1;exact ⟨⟨(t+1+k+1,s''),h4⟩,by show t<t+1+k+1;omega,aT h2 h5, λj q hj=>(h6 j q (aK hj h2)).trans (h3 j q hj)⟩
 let seq:(i:Nat)->{ p:Nat×St δ // Inv P Q S V cd main Z Stop D K gF p.1 p.2 }:= λi=>Nat.rec ⟨(0,s0),h0⟩ (λ_ x=>(nx x).choose) i
 have hlt:∀i,(seq i).1.1<(seq (i+1)).1.1:= λi=>(nx (seq i)).choose_spec.1
 have hd:∀i,(seq i).1.2.w.drawn<=(seq (i+1)).1.2.w.drawn:= λi=>(nx (seq i)).choose_spec.2.1
 have ht:∀i j q,j<(seq i).1.2.w.drawn->(seq (i+1)).1.2.w.tape j q=(seq i).1.2.w.tape j q:= λi=>(nx (seq i)).choose_spec.2.2
 have hge:∀i,i<=(seq i).1.1:=by
  intro i
  induction i with
  |zero=>exact bq _
  |succ i ih=>have :=hlt i;omega
 have hdd:∀d t,(seq t).1.2.w.drawn<=(seq (t+d)).1.2.w.drawn:=by
  intro d
  induction d with
  |zero=>intro t;exact aJ _
  |succ d ih=>intro t;exact aT (ih t) (hd (t+d))
 have htt:∀d t j q,j<(seq t).1.2.w.drawn->(seq (t+d)).1.2.w.tape j q=(seq t).1.2.w.tape j q:=by
  intro d
  induction d with
  |zero=>intro t j q _;rfl
  |succ d ih=>
   intro t j q hj;exact (ht (t+d) j q (aK hj (hdd d t))).trans (ih t j q hj)
 let τ:Nat->Question->Nat:= λj q=>if h:∃t,j<(seq t).1.2.w.drawn then (seq h.choose).1.2.w.tape j q else 0
 have Mk:∀t j q,j<(seq t).1.2.w.drawn->τ j q=(seq t).1.2.w.tape j q:=by
  intro t j q hj;have h:∃t,j<(seq t).1.2.w.drawn:=⟨t,hj⟩;have e:τ j q=(seq h.choose).1.2.w.tape j q:=dif_pos h;rw [e];have hc:=h.choose_spec;generalize h.choose=u at hc;rcases Nat.le_total t u with hle|hle
  ·obtain ⟨d,rfl⟩:=Nat.exists_eq_add_of_le hle;exact htt d t j q hj
  ·obtain ⟨d,rfl⟩:=Nat.exists_eq_add_of_le hle;exact (htt d u j q hc).symm
 obtain ⟨n,v,w',fr',h1,h2,h3⟩:=oD τ;have hrun:=(seq n).2.run τ λj q hj=>Mk n j q hj
 obtain ⟨k,hk⟩:=ahead hrun (nf (seq n).2) h2 h3;have :=hge n;omega
theorem Jt (hQ:Alike P Q) (G0:Ground P S V cd Z D) {g:FuncId} (hg:S g=true) (hgQ:Q.funcs[g]?=P.funcs[g]?) {args args':Array Value} (ha:VS (FA S V cd (Bd D.A D.w0.heap.size)) args) (haa:args'=args.map (rv D.f0))
 (hwr:WR (FA S V cd (Bd D.A D.w0.heap.size)) D.f0 D.w0 D.W0) (hlk:∀(b:Nat) (o:Obj),D.A b=true->D.w0.heap[b]?=some o->¬lu o->D.eP (D.f0 b)∧¬D.L (D.f0 b))
 (oD:∀τ,Calls P g args (D.w0.tp τ) λe w'=>∃v,e= .returned v∧R v w') (d0:δ)
 (hpast:Past P Q S V cd main Z Stop D K (Frame.enter P g args .normal))
 (hend:XA P D.w0 (Frame.enter P g args .normal) R->∀{t s},Inv P Q S V cd main Z Stop D K (Frame.enter P g args .normal) t s->¬Fin s.fr s.up):
 Gw Q main Z (Stop d0) D.eP (G (Frame.enter Q g args' .normal) K) D.W0:=by
 apply bu;intro hn
 have ent:jE D.f0 (Frame.enter P g args .normal)=Frame.enter Q g args' .normal:=by
  have :=D8 (P:=P) (F:=FA S V cd (Bd D.A D.w0.heap.size)) (f:=D.f0) (G0.good _) hg args;rw [<-this,haa];unfold Frame.enter;rw [hgQ]
 have hc:XA P D.w0 (Frame.enter P g args .normal) R:= λτ=>by
  obtain ⟨e,w',fr,⟨v,rfl,h1⟩,⟨n,h2⟩,_,h3⟩:=oD τ [Par.stk];exact ⟨n,v,w',fr,h1,h2,h3⟩
 refine am7 (main:=main) (Stop:=Stop) (R:=R) (gF:=Frame.enter P g args .normal) (s0:=⟨Frame.enter P g args .normal,[],D.w0,D.f0,D.eP,D.W0,d0⟩) hQ G0 hc
  ⟨⟨⟨nk.enter (G0.good _) hg ha,rfl⟩,.inl rfl,hwr,aJ _, λb _=>rfl,G0.ac3, λb h1 h2=>absurd h1 (Nat.not_le.2 h2), λb c h1 h2 h3=>absurd h1 (Nat.not_le.2 (Nat.lt_trans h2 h3)),G0.a0,hlk, λb hb=>hb, λb hb=>.inl hb, λb hb=>(G0.own b hb).1,Since.refl Z D.W0, λb _=>rfl, λτ _=>rfl⟩,?_⟩ hpast (hend hc)
 show ¬Gw Q main Z (Stop d0) D.eP (G (jE D.f0 (Frame.enter P g args .normal)) (List.map (jE D.f0) []++K)) D.W0;rw [ent];exact hn
theorem Ry (hSQ:∀g,S g=true->Q.funcs[g]?=P.funcs[g]?):Past P Q S V cd main Z Stop D K gF:= λ_ _ h=>by
 obtain ⟨g,aS,hg,_,_,_,hne,_⟩:=h.ent;exact absurd (hSQ g hg) hne
end
end
end Par
namespace Par
open Go Go.Conc Go.ConcN
section
def lb:Loc->Nat
 | .cell a=>a.block
 | .obj r=>r
 |_=>0
def fZ:Loc->Prop
 | .cell _| .obj _=>True
 |_=>False
inductive Who where
 |gV (g:Nat)
 |ro
 |sy
 |lk
 |dn
 |fr
 |pt
structure Gh where
 B:Nat
 who:Loc->Who
 live:Nat->Prop
 act:Nat->Prop
 lock:Option Addr
 wg:Option Addr
def Ml (a:Option Addr) (t:Trace) (i:Nat):Prop:=∃a0,a=some a0∧∃p,t.act? p=some (.mark (.releaseMerge a0))∧t.heard p∧Before t i p
def Says (γ:Gh) (t:Trace) (i:Nat):Prop:=t.counts i∨∃x,touchAt t i=some x∧γ.who x.loc≠ .sy
structure TI (γ:Gh) (t:Trace):Prop where
 gV:∀l g,γ.who l= .gV g->Perm t g l
 ro:∀l g,γ.who l= .ro->γ.live g->PermW t g l
 sy:∀i x op,γ.who x.loc= .sy->touchAt t i=some x->t[i]?=some op->(x.kind≠ .plain∧(x.kind= .said->op.g=0))∨∀g,γ.live g->Knows t g i
 lk:∀l i x,γ.who l= .lk->touchAt t i=some x->x.loc=l->(∀g,γ.live g->Knows t g i)∨Ml γ.lock t i
 new:∀i x,touchAt t i=some x->fZ x.loc->lb x.loc<γ.B
 ho:∀i op,t[i]?=some op->op.g≠0->Says γ t i->γ.act op.g∨Knows t 0 i∨Ml γ.wg t i
 nr:∀said,¬Race said t
 nl:∀a,NoRelease a t
def OkT (who:Loc->Who) (g:Nat) (x:Touch):Prop:=
 who x.loc= .gV g∨(who x.loc= .ro∧x.write=false)∨(who x.loc= .sy∧x.kind≠ .plain∧(x.kind= .said->g=0))∨(who x.loc= .fr∧¬fZ x.loc)
section
variable {γ:Gh} {t u:Trace} {g:Nat}
theorem UC {l:Loc} (h:l.isMemory=true):fZ l:=by cases l<;>first |trivial|cases h
theorem Ml.app {a:Option Addr} {i:Nat} (h:Ml a t i):Ml a (t++u) i:=by
 obtain ⟨a0,h0,p,h1,h2,h3⟩:=h;have hp:=lt_of_act? h1;exact ⟨a0,h0,p,by rw [act?_old hp];exact h1,(heard_old hp).2 h2,h3.app u⟩
theorem zy {i:Nat} {x:Touch} (hx:touchAt (t++u) i=some x):(i<t.size∧touchAt t i=some x)∨∃op∈u,(t++u)[i]?=some op∧op.act.touch?=some x:=by
 obtain ⟨z,hz,hzx⟩:=touch_of hx;rcases getElem?_append_cases hz with ⟨hlt,hz'⟩|⟨_,hzu⟩
 ·exact .inl ⟨hlt,by rw [touchAt_of hz'];exact hzx⟩
 ·exact .inr ⟨z,hzu,hz,hzx⟩
theorem Says.old {i:Nat} (h:Says γ (t++u) i) (hlt:i<t.size):Says γ t i:=
 h.imp (counts_old hlt).1 λ⟨x,hx,hs⟩=>⟨x,by rw [<-touchAt_old (u:=u) hlt];exact hx,hs⟩
theorem TI.P5 (h:TI γ t) (hl:γ.live g) {b:Touch} (hb:γ.who b.loc= .sy) (hk:b.kind≠ .plain) (hs:b.kind= .said->g=0) {said:Bool}:∀i a,touchAt t i=some a->a.conflicts said b->Knows t g i:=by
 intro i a ha hc;obtain ⟨op,hop,aC2⟩:=touch_of ha;rcases h.sy i a op (by rw [hc.1];exact hb) ha hop with ⟨h1,h2⟩|h1
 ·obtain ⟨_,_,_,hcase⟩:=hc;rcases hcase with x|x|⟨_,x,y⟩
  ·exact absurd x h1
  ·exact absurd x hk
  ·have :=knows_own hop
   rwa [h2 x, <-hs y] at this
 ·exact h1 g hl
theorem TI.app {B':Nat} (h:TI γ t) (hB:γ.B<=B') (hl:γ.live g) (hg:∀op∈u,op.g=g) (hu:∀op∈u,∀x,op.act.touch?=some x->OkT γ.who g x∧(fZ x.loc->lb x.loc<B'))
 (hc:g=0∨γ.act g) (hr:∀op∈u,∀a,op.act≠ .mark (.release a)):TI { γ with B:=B' } (t++u):=by
 have kn:∀i op,op∈u->(t++u)[i]?=some op->γ.act op.g∨Knows (t++u) 0 i∨Ml γ.wg (t++u) i:=by
  intro i op hop hi;rcases hc with h0|h0
  ·have :=knows_own hi;rw [hg op hop,h0] at this;exact .inr (.inl this)
  ·exact .inl (by rw [hg op hop];exact h0)
 refine ⟨λl k hk=>(h.gV l k hk).app λop hop b hb e=>?_, λl k hk hlv=>(h.ro l k hk hlv).app λop hop b hb e hw=>?_, λi x op hs hx hop=>?_,
  λl i x hlk hx e=>?_, λi x hx hmem=>?_, λi op hop hg0 hcnt=>?_, λsaid=>?_, λa i hi=>?_⟩
 ·have hk:γ.who l= .gV k:=hk;rcases (hu op hop b hb).1 with h1|⟨h1,_⟩|⟨h1,_⟩|⟨h1,_⟩
  ·rw [e,hk] at h1;rw [hg op hop];exact (Who.gV.inj h1).symm
  all_goals (rw [e,hk] at h1;cases h1)
 ·have hk:γ.who l= .ro:=hk;rcases (hu op hop b hb).1 with h1|⟨_,h1⟩|⟨h1,_⟩|⟨h1,_⟩
  ·rw [e,hk] at h1;cases h1
  ·rw [h1] at hw;cases hw
  ·rw [e,hk] at h1;cases h1
  ·rw [e,hk] at h1;cases h1
 ·have hs:γ.who x.loc= .sy:=hs;rcases zy hx with ⟨hlt,hx'⟩|⟨z,hz,hzi,hzx⟩
  ·rw [getElem?_append_old hlt] at hop;exact (h.sy i x op hs hx' hop).imp id λh1 g' hg'=>(h1 g' hg').app u
  ·rw [hzi] at hop;cases hop;rcases (hu op hz x hzx).1 with h1|⟨h1,_⟩|⟨_,h1,h2⟩|⟨h1,_⟩
   ·rw [hs] at h1;cases h1
   ·rw [hs] at h1;cases h1
   ·exact .inl ⟨h1, λe=>by rw [hg op hz];exact h2 e⟩
   ·rw [hs] at h1;cases h1
 ·have hlk:γ.who l= .lk:=hlk;rcases zy hx with ⟨hlt,hx'⟩|⟨z,hz,hzi,hzx⟩
  ·rcases h.lk l i x hlk hx' e with h1|h1
   ·exact .inl λg' hg'=>(h1 g' hg').app u
   ·exact .inr h1.app
  ·exfalso;rcases (hu z hz x hzx).1 with h1|⟨h1,_⟩|⟨h1,_⟩|⟨h1,_⟩<;>(rw [e,hlk] at h1;cases h1)
 ·rcases zy hx with ⟨hlt,hx'⟩|⟨z,hz,hzi,hzx⟩
  ·exact aK (h.new i x hx' hmem) hB
  ·exact (hu z hz x hzx).2 hmem
 ·rcases getElem?_append_cases hop with ⟨hlt,hop'⟩|⟨_,hou⟩
  ·rcases h.ho i op hop' hg0 (hcnt.old hlt) with h1|h1|h1
   ·exact .inl h1
   ·exact .inr (.inl (h1.app u))
   ·exact .inr (.inr h1.app)
  ·exact kn i op hou hop
 ·refine noRace_append (h.nr said) hg (λi x hx op hop b hb hc=>?_);rcases (hu op hop b hb).1 with h1|⟨h1,hw⟩|⟨h1,hk,hs⟩|⟨_,h1⟩
  ·exact h.gV b.loc g h1 i x hx hc.1
  ·exact h.ro b.loc g h1 hl i x hx hc.1 (hc.2.2.1.resolve_right (by simp [hw]))
  ·exact h.P5 hl h1 hk hs i x hx hc
  ·refine absurd ?_ h1
   rw [<-hc.1];exact UC hc.2.1
 ·obtain ⟨op,ho,hoa⟩:=Option.map_eq_some_iff.1 hi;rcases getElem?_append_cases ho with ⟨hlt,ho'⟩|⟨_,hou⟩
  ·exact h.nl a i (by rw [act?_of ho',hoa])
  ·exact hr op hou a hoa
theorem TI.P6 (h:TI γ t) (hl:γ.live g) (hg:∀op∈u,op.g=g) (hu:∀op∈u,∀x,op.act.touch?=some x->γ.who x.loc= .sy∧x.kind= .atomic∧(fZ x.loc->lb x.loc<γ.B))
 (hd:∀i op,t.size<=i->op∈u->(t++u)[i]?=some op->¬(t++u).counts i) (hr:∀op∈u,∀a,op.act≠ .mark (.release a)):TI γ (t++u):=by
 have no:∀op∈u,∀x,op.act.touch?=some x->∀l,x.loc=l->γ.who l= .sy:= λop hop x hx l e=>e ▸ (hu op hop x hx).1
 refine ⟨λl k hk=>(h.gV l k hk).app λop hop b hb e=>?_, λl k hk hlv=>(h.ro l k hk hlv).app λop hop b hb e hw=>?_, λi x op hs hx hop=>?_,
  λl i x hlk hx e=>?_, λi x hx hmem=>?_, λi op hop hg0 hcnt=>?_, λsaid=>?_, λa i hi=>?_⟩
 ·have :=no op hop b hb l e;rw [hk] at this;cases this
 ·have :=no op hop b hb l e;rw [hk] at this;cases this
 ·rcases zy hx with ⟨hlt,hx'⟩|⟨z,hz,hzi,hzx⟩
  ·rw [getElem?_append_old hlt] at hop;exact (h.sy i x op hs hx' hop).imp id λh1 g' hg'=>(h1 g' hg').app u
  ·obtain ⟨_,h1,_⟩:=hu z hz x hzx;exact .inl ⟨by rw [h1];simp, λe=>by rw [h1] at e;cases e⟩
 ·rcases zy hx with ⟨hlt,hx'⟩|⟨z,hz,hzi,hzx⟩
  ·rcases h.lk l i x hlk hx' e with h1|h1
   ·exact .inl λg' hg'=>(h1 g' hg').app u
   ·exact .inr h1.app
  ·have :=no z hz x hzx l e;rw [hlk] at this;cases this
 ·rcases zy hx with ⟨hlt,hx'⟩|⟨z,hz,hzi,hzx⟩
  ·exact h.new i x hx' hmem
  ·exact (hu z hz x hzx).2.2 hmem
 ·rcases getElem?_append_cases hop with ⟨hlt,hop'⟩|⟨hge,hou⟩
  ·rcases h.ho i op hop' hg0 (hcnt.old hlt) with h1|h1|h1
   ·exact .inl h1
   ·exact .inr (.inl (h1.app u))
   ·exact .inr (.inr h1.app)
  ·rcases hcnt with hcnt|⟨x,hx,hs⟩
   ·exact absurd hcnt (hd i op hge hou hop)
   ·rw [touchAt_of hop] at hx;exact absurd (hu op hou x hx).1 hs
 ·refine noRace_append (h.nr said) hg (λi x hx op hop b hb hc=>?_);obtain ⟨h1,h2,_⟩:=hu op hop b hb;exact h.P5 hl h1 (by rw [h2];simp) (λe=>by rw [h2] at e;cases e) i x hx hc
 ·obtain ⟨op,ho,hoa⟩:=Option.map_eq_some_iff.1 hi;rcases getElem?_append_cases ho with ⟨hlt,ho'⟩|⟨_,hou⟩
  ·exact h.nl a i (by rw [act?_of ho',hoa])
  ·exact hr op hou a hoa
theorem oW {z:MemOp} (hn:z.act.touch?=none) {i:Nat} {b:Touch} (hb:touchAt (t++ #[z]) i=some b):touchAt t i=some b:=by
 rcases zy hb with ⟨_,h⟩|⟨y,hy,_,hyb⟩
 ·exact h
 ·simp at hy;subst hy;rw [hn] at hyb;cases hyb
theorem TI.still (h:TI γ t) {z:MemOp} (hn:z.act.touch?=none) (hr:∀a,z.act≠ .mark (.release a)):TI γ (t++ #[z]):=by
 have lt:∀{i:Nat} {x:Touch},touchAt (t++ #[z]) i=some x->i<t.size:= λhx=>by
  obtain ⟨op,hop,_⟩:=touch_of (oW hn hx);exact lt_size_of_getElem? hop
 refine ⟨λl g hl i x hx e=>(h.gV l g hl i x (oW hn hx) e).app _, λl g hl hlv i x hx e hw=>(h.ro l g hl hlv i x (oW hn hx) e hw).app _, λi x op hs hx hop=>?_, λl i x hl hx e=>?_, λi x hx=>h.new i x (oW hn hx), λi op hi hg hs=>?_, λsaid=>?_, λa i hi=>?_⟩
 ·rw [getElem?_append_old (lt hx)] at hop;exact (h.sy i x op hs (oW hn hx) hop).imp id λh1 g' hg'=>(h1 g' hg').app _
 ·rcases h.lk l i x hl (oW hn hx) e with h1|h1
  ·exact .inl λg' hg'=>(h1 g' hg').app _
  ·exact .inr h1.app
 ·rcases getElem?_append_cases hi with ⟨hlt,hi'⟩|⟨_,hiu⟩
  ·rcases h.ho i op hi' hg (hs.old hlt) with h1|h1|h1
   ·exact .inl h1
   ·exact .inr (.inl (h1.app _))
   ·exact .inr (.inr h1.app)
  ·exfalso
   have hz:touchAt (t++ #[z]) i=none:=by
    rw [touchAt_of hi];simp at hiu;rw [hiu,hn]
   rcases hs with ⟨x,hx,_⟩|⟨x,hx,_⟩
   ·have hx':touchAt (t++ #[z]) i=some x:=hx;rw [hz] at hx';cases hx'
   ·rw [hz] at hx;cases hx
 ·refine noRace_append (g:=z.g) (h.nr said) (λop hop=>by simp at hop;rw [hop]) (λi a _ op hop b hb _=>?_);simp at hop;rw [hop,hn] at hb;cases hb
 ·obtain ⟨op,ho,hoa⟩:=Option.map_eq_some_iff.1 hi;rcases getElem?_append_cases ho with ⟨hlt,ho'⟩|⟨_,hou⟩
  ·exact h.nl a i (by rw [act?_of ho',hoa])
  ·simp at hou;exact hr a (by rw [<-hou];exact hoa)
theorem TI.Om (h:TI γ t) {u:Trace} (hn:∀op∈u,op.act.touch?=none) (hr:∀op∈u,∀a,op.act≠ .mark (.release a)):TI γ (t++u):=by
 obtain ⟨l⟩:=u
 induction l generalizing t with
 |nil=>simpa using h
 |cons z l ih=>
  have e:t++(⟨z::l⟩:Trace)=(t++ #[z])++(⟨l⟩:Trace):=by apply Array.ext';simp
  rw [e];exact ih (h.still (hn z (by simp)) (hr z (by simp))) (λop hop=>hn op (by simp at hop ⊢;exact .inr hop)) (λop hop=>hr op (by simp at hop ⊢;exact .inr hop))
theorem TI.drop (h:TI γ t) {live':Nat->Prop} (hl:∀g,live' g->γ.live g):TI { γ with live:=live' } t:=
 ⟨h.gV, λl g hr hg=>h.ro l g hr (hl g hg), λi x op hs hx hop=>(h.sy i x op hs hx hop).imp id λh1 g hg=>h1 g (hl g hg), λl i x hk hx e=>(h.lk l i x hk hx e).imp (λh1 g hg=>h1 g (hl g hg)) id,h.new,h.ho,h.nr,h.nl⟩
theorem TI.P7 (h:TI γ t) {eF:Loc->Who} (hw:∀l,(fZ l->lb l<γ.B)->eF l=γ.who l):TI { γ with who:=eF } t:=by
 have key:∀{i:Nat} {x:Touch},touchAt t i=some x->eF x.loc=γ.who x.loc:= λhx=>hw _ (h.new _ _ hx)
 refine ⟨λl g hl i x hx e=>?_, λl g hl hlv i x hx e hwr=>?_, λi x op hs hx hop=>?_, λl i x hl hx e=>?_,h.new, λi op hi hg hs=>?_,h.nr,h.nl⟩
 ·have hl:eF l= .gV g:=hl;rw [<-e,key hx] at hl;exact h.gV x.loc g hl i x hx rfl
 ·have hl:eF l= .ro:=hl;rw [<-e,key hx] at hl;exact h.ro x.loc g hl hlv i x hx rfl hwr
 ·have hs:eF x.loc= .sy:=hs;rw [key hx] at hs;exact h.sy i x op hs hx hop
 ·have hl:eF l= .lk:=hl;rw [<-e,key hx] at hl;exact h.lk x.loc i x hl hx rfl
 ·refine h.ho i op hi hg (hs.imp id λ⟨x,hx,hn⟩=>⟨x,hx,?_⟩);have hn:eF x.loc≠ .sy:=hn
  rwa [key hx] at hn
theorem CK {γ':Gh} (hsy:∀l,γ'.who l= .sy↔γ.who l= .sy) {i:Nat} (h:Says γ' t i):Says γ t i:=
 h.imp id λ⟨x,hx,hn⟩=>⟨x,hx, λe=>hn ((hsy _).2 e)⟩
theorem TI.am8 (h:TI γ t) (h0:∀g,γ.live g->g=0) {eF:Loc->Who} (hw:∀l,eF l=γ.who l∨(γ.who l= .gV 0∧(eF l= .ro∨eF l= .lk∨eF l= .sy∨eF l= .pt))) (ha:∀g,g≠0->¬γ.act g) (hwg:γ.wg=none) (hlk:γ.lock=none) (wg' lock':Option Addr):TI { γ with who:=eF,wg:=wg',lock:=lock' } t:=by
 refine ⟨λl g hl=>?_, λl g hl hlv=>?_, λi x op hs hx hop=>?_, λl i x hl hx e=>?_,h.new, λi op hi hg hs=>?_,h.nr,h.nl⟩
 ·have hl:eF l= .gV g:=hl;rcases hw l with e|⟨_,e'|e'|e'|e'⟩
  ·rw [e] at hl;exact h.gV l g hl
  all_goals (rw [e'] at hl;cases hl)
 ·have hl:eF l= .ro:=hl;have :=h0 g hlv;subst this;rcases hw l with e|⟨e,_⟩
  ·rw [e] at hl;exact h.ro l _ hl hlv
  ·exact PermW.of (h.gV l 0 e)
 ·have hs:eF x.loc= .sy:=hs;rcases hw x.loc with e'|⟨e',_⟩
  ·rw [e'] at hs;exact h.sy i x op hs hx hop
  ·refine .inr λg hg=>?_
   have hg:γ.live g:=hg;rw [h0 g hg];exact h.gV x.loc 0 e' i x hx rfl
 ·have hl:eF l= .lk:=hl;rcases hw l with e'|⟨e',_⟩
  ·rw [e'] at hl;rcases h.lk l i x hl hx e with h1|⟨a0,h1,_⟩
   ·exact .inl h1
   ·rw [hlk] at h1;cases h1
  ·refine .inl λg hg=>?_
   have hg:γ.live g:=hg;rw [h0 g hg];exact h.gV l 0 e' i x hx e
 ·have hs':Says γ t i∨Knows t 0 i:=by
   rcases hs with hc|⟨x,hx,hn⟩
   ·exact .inl (.inl hc)
   ·have hn:eF x.loc≠ .sy:=hn;rcases hw x.loc with e'|⟨e',_⟩
    ·exact .inl (.inr ⟨x,hx,by rw [<-e'];exact hn⟩)
    ·exact .inr (h.gV x.loc 0 e' i x hx rfl)
  rcases hs' with hs'|hs'
  ·rcases h.ho i op hi hg hs' with h1|h1|⟨a0,h1,_⟩
   ·exact absurd h1 (ha _ hg)
   ·exact .inr (.inl h1)
   ·rw [hwg] at h1;cases h1
  ·exact .inr (.inl hs')
theorem TI.fork (h:TI γ t) {k:Nat} {x y:MemOp} (hx:x.g=0∧x.act= .go k) (hy:y.g=k∧y.act= .start) (h0:Deaf t 0=0) (hk:Deaf t k=0) (hl:γ.live 0)
 {eF:Loc->Who} (hw:∀l,eF l=γ.who l∨(γ.who l= .gV 0∧eF l= .gV k)):
 TI { γ with who:=eF,live:= λg=>γ.live g∨g=k,act:= λg=>γ.act g∨g=k } (t++ #[x,y]):=by
 have hb:TI γ (t++ #[x,y]):=by
  have e:t++ #[x,y]=(t++ #[x])++ #[y]:=by apply Array.ext';simp
  rw [e];exact (h.still (by rw [hx.2];rfl) (by rw [hx.2];simp)).still (by rw [hy.2];rfl) (by rw [hy.2];simp)
 have old:∀{i:Nat} {b:Touch},touchAt (t++ #[x,y]) i=some b->touchAt t i=some b:=by
  intro i b hb;rcases zy hb with ⟨_,h⟩|⟨z,hz,_,hzb⟩
  ·exact h
  ·exfalso;have :z=x∨z=y:=by simpa using hz
   rcases this with rfl|rfl
   ·rw [hx.2] at hzb;cases hzb
   ·rw [hy.2] at hzb;cases hzb
 have hsy:∀l,eF l= .sy↔γ.who l= .sy:=by
  intro l;rcases hw l with e|⟨e,e'⟩
  ·rw [e]
  ·rw [e,e'];simp
 refine ⟨λl g hl' i b hb' e=>?_, λl g hl' hlv i b hb' e hwr=>?_, λi b op hs hb' hi=>?_, λl i b hl' hb' e=>?_,hb.new, λi op hi hg hs=>?_,hb.nr,hb.nl⟩
 ·have hl':eF l= .gV g:=hl';rcases hw l with e'|⟨e',e''⟩
  ·rw [e'] at hl';exact hb.gV l g hl' i b hb' e
  ·rw [e''] at hl';cases hl';exact fork_knows hx hy h0 hk (h.gV l 0 e' i b (old hb') e)
 ·have hl':eF l= .ro:=hl'
  have hr:γ.who l= .ro:=by
   rcases hw l with e'|⟨_,e''⟩
   ·rw [<-e'];exact hl'
   ·rw [e''] at hl';cases hl'
  rcases hlv with hlv|rfl
  ·exact hb.ro l g hr hlv i b hb' e hwr
  ·exact fork_knows hx hy h0 hk (h.ro l 0 hr hl i b (old hb') e hwr)
 ·have hlt:i<t.size:=by
   obtain ⟨z,hz,_⟩:=touch_of (old hb');exact lt_size_of_getElem? hz
  rw [getElem?_append_old hlt] at hi;rcases h.sy i b op ((hsy _).1 hs) (old hb') hi with h1|h1
  ·exact .inl h1
  ·refine .inr λg hg=>?_
   rcases hg with hg|rfl
   ·exact (h1 g hg).app _
   ·exact fork_knows hx hy h0 hk (h1 0 hl)
 ·have hl':eF l= .lk:=hl'
  have hr:γ.who l= .lk:=by
   rcases hw l with e'|⟨_,e''⟩
   ·rw [<-e'];exact hl'
   ·rw [e''] at hl';cases hl'
  rcases h.lk l i b hr (old hb') e with h1|h1
  ·refine .inl λg hg=>?_
   rcases hg with hg|rfl
   ·exact (h1 g hg).app _
   ·exact fork_knows hx hy h0 hk (h1 0 hl)
  ·exact .inr h1.app
 ·rcases hb.ho i op hi hg (CK (γ:=γ) (γ':={ γ with who:=eF,live:= λg=>γ.live g∨g=k,act:= λg=>γ.act g∨g=k }) hsy hs) with h1|h1
  ·exact .inl (.inl h1)
  ·exact .inr h1
theorem Ju {a:Addr} {z:MemOp} (hz:z.act= .mark (.acquire a)) (hd:Deaf t z.g=0) (hn:NoRelease a t) {i:Nat} (h:Ml (some a) t i):Knows (t++ #[z]) z.g i:=by
 obtain ⟨a0,h0,p,h1,h2,h3⟩:=h;cases h0;have hq:(t++ #[z])[t.size]?=some z:=by simp
 have hp:=lt_of_act? h1
 have edge:HappensBefore (t++ #[z]) p t.size:=.single (.inr ⟨.marked hp (.inr (by rw [act?_old hp];exact h1)) (by rw [act?_of hq,hz]) (λk _ hk=>by rw [act?_old hk];exact hn k),(heard_old hp).2 h2,
  ⟨z.g,by simp [Trace.g?],by rw [deaf_old (aJ _)];exact hd⟩⟩)
 exact ⟨t.size,z,hq,rfl,.inr ((h3.app #[z]).hb edge)⟩
theorem TI.acquire (h:TI γ t) {z:MemOp} {a:Addr} (hla:γ.lock=some a) (hz:z.act= .mark (.acquire a)) (hd:Deaf t z.g=0) (hl:γ.live z.g) {eF:Loc->Who} (hw:∀l,eF l=γ.who l∨(γ.who l= .lk∧eF l= .gV z.g)):
 TI { γ with who:=eF } (t++ #[z]):=by
 have hn:z.act.touch?=none:=by rw [hz];rfl
 have hb:TI γ (t++ #[z]):=h.still hn (by rw [hz];simp)
 have hsy:∀l,eF l= .sy↔γ.who l= .sy:=by
  intro l;rcases hw l with e|⟨e,e'⟩
  ·rw [e]
  ·rw [e,e'];simp
 refine ⟨λl g hl' i b hb' e=>?_, λl g hl' hlv=>?_, λi b op hs hb' hi=>hb.sy i b op ((hsy _).1 hs) hb' hi, λl i b hl' hb' e=>?_,hb.new, λi op hi hg hs=>hb.ho i op hi hg (CK (γ:=γ) (γ':={ γ with who:=eF }) hsy hs),hb.nr,hb.nl⟩
 ·have hl':eF l= .gV g:=hl';rcases hw l with e'|⟨e',e''⟩
  ·rw [e'] at hl';exact hb.gV l g hl' i b hb' e
  ·rw [e''] at hl';cases hl';rcases h.lk l i b e' (oW hn hb') e with h1|h1
   ·exact (h1 z.g hl).app _
   ·rw [hla] at h1;exact Ju hz hd (h.nl a) h1
 ·have hl':eF l= .ro:=hl';rcases hw l with e'|⟨_,e''⟩
  ·rw [e'] at hl';exact hb.ro l g hl' hlv
  ·rw [e''] at hl';cases hl'
 ·have hl':eF l= .lk:=hl';rcases hw l with e'|⟨_,e''⟩
  ·rw [e'] at hl';exact hb.lk l i b hl' hb' e
  ·rw [e''] at hl';cases hl'
theorem TI.release (h:TI γ t) {y:MemOp} {a:Addr} (hla:γ.lock=some a) (hy:y.act= .mark (.releaseMerge a)) (hd:Deaf t y.g=0) {eF:Loc->Who} (hw:∀l,eF l=γ.who l∨(γ.who l= .gV y.g∧eF l= .lk)):
 TI { γ with who:=eF } (t++ #[y]):=by
 have hn:y.act.touch?=none:=by rw [hy];rfl
 have hb:TI γ (t++ #[y]):=h.still hn (by rw [hy];simp);have hq:(t++ #[y])[t.size]?=some y:=by simp
 have hsy:∀l,eF l= .sy↔γ.who l= .sy:=by
  intro l;rcases hw l with e|⟨e,e'⟩
  ·rw [e]
  ·rw [e,e'];simp
 refine ⟨λl g hl' i b hb' e=>?_, λl g hl' hlv=>?_, λi b op hs hb' hi=>hb.sy i b op ((hsy _).1 hs) hb' hi, λl i b hl' hb' e=>?_,hb.new, λi op hi hg hs=>hb.ho i op hi hg (CK (γ:=γ) (γ':={ γ with who:=eF }) hsy hs),hb.nr,hb.nl⟩
 ·have hl':eF l= .gV g:=hl';rcases hw l with e'|⟨_,e''⟩
  ·rw [e'] at hl';exact hb.gV l g hl' i b hb' e
  ·rw [e''] at hl';cases hl'
 ·have hl':eF l= .ro:=hl';rcases hw l with e'|⟨_,e''⟩
  ·rw [e'] at hl';exact hb.ro l g hl' hlv
  ·rw [e''] at hl';cases hl'
 ·have hl':eF l= .lk:=hl';rcases hw l with e'|⟨e',e''⟩
  ·rw [e'] at hl';exact hb.lk l i b hl' hb' e
  ·refine .inr ⟨a,hla,t.size,by rw [act?_of hq,hy],⟨y.g,by simp [Trace.g?],by rw [deaf_old (aJ _)];exact hd⟩,.inr ?_⟩;exact (h.gV l y.g e' i b (oW hn hb') e).hb_new (aJ _) hq rfl
theorem TI.done (h:TI γ t) {y:MemOp} {a:Addr} (hla:γ.wg=some a) (hy:y.act= .mark (.releaseMerge a)) (hd:Deaf t y.g=0) {eF:Loc->Who} (hw:∀l,eF l≠ .gV y.g∧(eF l=γ.who l∨(γ.who l= .gV y.g∧eF l= .dn))):
 TI { γ with who:=eF,act:= λg=>γ.act g∧g≠y.g } (t++ #[y]):=by
 have hn:y.act.touch?=none:=by rw [hy];rfl
 have hb:TI γ (t++ #[y]):=h.still hn (by rw [hy];simp);have hq:(t++ #[y])[t.size]?=some y:=by simp
 have hrel:∀i,Before (t++ #[y]) i t.size->Ml γ.wg (t++ #[y]) i:= λi hi=>⟨a,hla,t.size,by rw [act?_of hq,hy],⟨y.g,by simp [Trace.g?],by rw [deaf_old (aJ _)];exact hd⟩,hi⟩
 have hsy:∀l,eF l= .sy↔γ.who l= .sy:=by
  intro l;rcases (hw l).2 with e|⟨e,e'⟩
  ·rw [e]
  ·rw [e,e'];simp
 refine ⟨λl g hl' i b hb' e=>?_, λl g hl' hlv=>?_, λi b op hs hb' hi=>hb.sy i b op ((hsy _).1 hs) hb' hi, λl i b hl' hb' e=>?_,hb.new, λi op hi hg hs=>?_,hb.nr,hb.nl⟩
 ·have hl':eF l= .gV g:=hl';rcases (hw l).2 with e'|⟨_,e''⟩
  ·rw [e'] at hl';exact hb.gV l g hl' i b hb' e
  ·rw [e''] at hl';cases hl'
 ·have hl':eF l= .ro:=hl';rcases (hw l).2 with e'|⟨_,e''⟩
  ·rw [e'] at hl';exact hb.ro l g hl' hlv
  ·rw [e''] at hl';cases hl'
 ·have hl':eF l= .lk:=hl';rcases (hw l).2 with e'|⟨e',e''⟩
  ·rw [e'] at hl';exact hb.lk l i b hl' hb' e
  ·rw [e''] at hl';cases hl'
 ·rcases hb.ho i op hi hg (CK (γ:=γ) (γ':={ γ with who:=eF,act:= λg=>γ.act g∧g≠y.g }) hsy hs) with h1|h1
  ·by_cases he:op.g=y.g
   ·refine .inr (.inr (hrel i ?_))
    have hle:i<=t.size:=by
     have :=lt_size_of_getElem? hi;simp at this;omega
    rcases bz i t.size with hlt|hge
    ·exact .inr (hb_po hlt hi hq he)
    ·exact .inl (by omega)
   ·exact .inl ⟨h1,he⟩
  ·exact .inr h1
theorem TI.join (h:TI γ t) {z:MemOp} {a:Addr} (hla:γ.wg=some a) (hz:z.act= .mark (.acquire a)) (hg:z.g=0) (hd:Deaf t 0=0) (hno:∀g,g≠0->¬γ.act g) {eF:Loc->Who} (hw:∀l,(eF l=γ.who l∧(γ.who l= .sy∨γ.who l= .fr))∨(γ.who l≠ .sy∧eF l= .gV 0)):
 TI { γ with who:=eF,wg:=none,lock:=none } (t++ #[z])∧∀i op,(t++ #[z])[i]?=some op->op.g≠0->Says γ (t++ #[z]) i->Knows (t++ #[z]) 0 i:=by
 have hn:z.act.touch?=none:=by rw [hz];rfl
 have hb:TI γ (t++ #[z]):=h.still hn (by rw [hz];simp)
 have hsy:∀l,eF l= .sy↔γ.who l= .sy:=by
  intro l;rcases hw l with ⟨e,_⟩|⟨e,e'⟩
  ·rw [e]
  ·rw [e'];simp [e]
 have hkn:∀i op,(t++ #[z])[i]?=some op->op.g≠0->Says γ (t++ #[z]) i->Knows (t++ #[z]) 0 i:=by
  intro i op hi hg0 hs;rcases getElem?_append_cases hi with ⟨hlt,hi'⟩|⟨_,hiu⟩
  ·rcases h.ho i op hi' hg0 (hs.old hlt) with h1|h1|h1
   ·exact absurd h1 (hno _ hg0)
   ·exact h1.app _
   ·rw [hla] at h1;have :=Ju hz (by rw [hg];exact hd) (h.nl a) h1
    rwa [hg] at this
  ·simp at hiu;subst hiu;exact absurd hg hg0
 have all:∀l,γ.who l≠ .sy->Perm (t++ #[z]) 0 l:=by
  intro l hl i x hx e;obtain ⟨op,hop,aC3⟩:=touch_of hx
  by_cases hg0:op.g=0
  ·have :=knows_own hop
   rwa [hg0] at this
  ·exact hkn i op hop hg0 (.inr ⟨x,hx,by rw [e];exact hl⟩)
 refine ⟨⟨λl g hl'=>?_, λl g hl'=>?_, λi b op hs hb' hi=>hb.sy i b op ((hsy _).1 hs) hb' hi, λl i b hl'=>?_,hb.new, λi op hi hg' hs=>.inr (.inl (hkn i op hi hg' (CK (γ:=γ) (γ':={ γ with who:=eF,wg:=none,lock:=none }) hsy hs))),hb.nr,hb.nl⟩,hkn⟩
 ·have hl':eF l= .gV g:=hl';rcases hw l with ⟨e',e|e⟩|⟨e,e'⟩
  ·rw [e',e] at hl';cases hl'
  ·rw [e',e] at hl';cases hl'
  ·rw [e'] at hl';cases hl';exact all l e
 ·have hl':eF l= .ro:=hl';rcases hw l with ⟨e',e|e⟩|⟨_,e'⟩
  ·rw [e',e] at hl';cases hl'
  ·rw [e',e] at hl';cases hl'
  ·rw [e'] at hl';cases hl'
 ·have hl':eF l= .lk:=hl';rcases hw l with ⟨e',e|e⟩|⟨_,e'⟩
  ·rw [e',e] at hl';cases hl'
  ·rw [e',e] at hl';cases hl'
  ·rw [e'] at hl';cases hl'
theorem handed (h:∀i op,t[i]?=some op->op.g≠0->t.counts i->Knows t 0 i):t.HandedOver:=by
 intro i g hgi hne hc;obtain ⟨op,hop,hg⟩:=Option.map_eq_some_iff.1 hgi;obtain ⟨q,z,h1,h2,h3⟩:=h i op hop (by rw [hg];exact hne) hc;refine ⟨q,by simp [Trace.g?,h1,h2],?_⟩;rcases h3 with rfl|h3
 ·rw [hop] at h1;cases h1;exact absurd (hg.symm.trans h2) hne
 ·exact h3
end
end
end Par
namespace Par
open Go Go.Conc Go.ConcM
section
inductive pW {α:Type} (r:α->α->Prop):List α->List α->Prop
 |head {a b:α} {l:List α} (h:r a b):pW r (a::l) (b::l)
 |tail {a:α} {l k:List α} (h:pW r l k):pW r (a::l) (a::k)
theorem pW.UD {α:Type} {r:α->α->Prop} {a:α} (ha:Acc r a):∀{l:List α},Acc (pW r) l->Acc (pW r) (a::l):=by
 induction ha with
 |intro a _ iha=>
  intro l hl
  induction hl with
  |intro _ hl ihl=>
   refine .intro _ λy hy=>?_
   cases hy with
   |head h=>exact iha _ h (.intro _ hl)
   |tail h=>exact ihl _ h
theorem pW.acc {α:Type} {r:α->α->Prop}:∀{l:List α},(∀a∈l,Acc r a)->Acc (pW r) l
 | [],_=>.intro _ λy hy=>by cases hy
 |a::l,h=>pW.UD (h a (aQ ..)) (pW.acc λb hb=>h b (aR _ hb))
theorem pW.wf {α:Type} {r:α->α->Prop} (h:WellFounded r):WellFounded (pW r):=⟨λl=>pW.acc λa _=>h.apply a⟩
theorem pW.UE {α:Type} {r:α->α->Prop}:∀{l:List α} {i:Nat} {a b:α},l[i]?=some b->r a b->pW r (l.set i a) l
 |_::_,0,a,b,h,hr=>by
  simp at h;subst h;exact .head hr
 |x::l,i+1,a,b,h,hr=>by
  simp at h;exact .tail (pW.UE h hr)
 | [],i,a,b,h,_=>by simp at h
inductive Tr where
 |leaf
 |node (f:World->Tr)
def Tr.Sub (x y:Tr):Prop:=∃(f:World->Tr) (W:World),y= .node f∧x=f W
theorem Tr.wf:WellFounded Tr.Sub:=by
 refine ⟨λt=>?_⟩
 induction t with
 |leaf=>exact .intro _ λy ⟨f,W,h,_⟩=>by cases h
 |node f ih=>
  refine .intro _ λy ⟨f',W,h,hy⟩=>?_
  cases h;rw [hy];exact ih W
def Gr (P:Program) (main:Bool) (Z:gG) (Stop:(Nat->Prop)->Goroutine->World->Prop):Tr->(Nat->Prop)->Goroutine->World->Prop
 | .leaf,own,g,W=>∀W1,dZ Z own W W1->Stop own g W1
 | .node f,own,g,W=>g.status= .running∧∀W1,dZ Z own W W1->∃g' W' es,stepG P main g W1= .go g' W' es∧wM Z own W1 W'∧(∀e∈es,Rm Z (grow own W1 W') e)∧Gr P main Z Stop (f W1) (grow own W1 W') g' W'
section
variable {P:Program} {main:Bool} {Z:gG} {Stop:(Nat->Prop)->Goroutine->World->Prop} {own:Nat->Prop} {g:Goroutine} {W:World}
theorem Gw.rank (h:Gw P main Z Stop own g W):∃tr,Gr P main Z Stop tr own g W:=by
 classical
 induction h with
 |stop h=>exact ⟨.leaf,h⟩
 | @step own g W hs g' W' es h1 h2 h3 _ ih=>
   refine ⟨.node λW1=>if hr:dZ Z own W W1 then (ih W1 hr).choose else .leaf,hs, λW1 hr=>⟨g' W1,W' W1,es W1,h1 W1 hr,h2 W1 hr,h3 W1 hr,?_⟩⟩;dsimp only;rw [dif_pos hr];exact (ih W1 hr).choose_spec
theorem Gr.rely {tr:Tr} {W1:World} (h:Gr P main Z Stop tr own g W) (hr:dZ Z own W W1):Gr P main Z Stop tr own g W1:=by
 cases tr with
 |leaf=>exact λW2 h2=>h W2 (hr.trans h2)
 |node f=>exact ⟨h.1, λW2 h2=>h.2 W2 (hr.trans h2)⟩
end
theorem wM.rely {Z Z':gG} {own dK:Nat->Prop} {W W1:World} (h:wM Z own W W1) (hlt:∀b,dK b->b<W.heap.size) (ho:∀b,dK b->¬own b∧¬Z.sy b) (aw5:∀b,Z'.ro b->b<W.heap.size) (hr:∀b,Z'.ro b->¬own b∧¬Z.sy b)
 (hs:∀b,Z'.sy b->Z.sy b∨(b<W.heap.size∧¬own b)) (hc:∀b i,Z'.cl b i->(Z.sy b∧¬Z.cl b i)∨(b<W.heap.size∧¬own b∧¬Z.sy b)):dZ Z' dK W W1:=by
 refine ⟨h.tape,h.out,by rw [h.os];exact OsLater.refl _,h.size, λb hb=>h.rest b (hlt b hb) (ho b hb).1 (ho b hb).2, λb hb=>h.rest b (aw5 b hb) (hr b hb).1 (hr b hb).2, λb hb=>?_, λb i hb=>?_⟩
 ·by_cases hz:Z.sy b
  ·exact (h.sy b hz).1
  ·rcases hs b hb with x|⟨x,y⟩
   ·exact absurd x hz
   ·rw [h.rest b x y hz];exact y9.refl _
 ·rcases hc b i hb with ⟨x,y⟩|⟨x,y,z⟩
  ·exact (h.sy b x).2 i y
  ·unfold World.cell?;simp only [h.rest b x y z]
end
end Par
namespace Par
open Go Go.Conc Go.ConcM Go.ConcN
section
inductive Kind where
 |atomic|disable|enable|clock|said|sem|uV|uW|done|join
structure Sys (T Sh:Type) where
 Fq:Sh->World->Prop
 syn:Nat->Prop
 gz:Sh->Option Addr
 oI:Sh->Option Addr
 mv:Nat->T->Sh->T->Sh->Prop
 sp:T->Sh->T->T->Sh->Prop
 blk:T->Sh->Prop
 wakes:T->Bool
 kind:T->Kind
 fork:T->Bool
 ret:T->Bool
 quit:T->Bool
 deaf:T->Nat
 past:T->Bool
 Z:Nat->T->gG
 J:Sh->(Nat->Prop)->World->Prop
 Dp:Sh->(Nat->Prop)->(Nat->Nat->Prop)->World->Prop
 fits:Nat->T->Sh->Prop
 Anch:T->(Nat->Prop)->Goroutine->World->Prop
section
variable {T Sh:Type} (P:Program) (S:Sys T Sh)
structure eT (W W':World):Prop where
 tape:W'.tape=W.tape
 out:W'.output=W.output
 os:OsLater W.os W'.os
 size:W'.heap.size=W.heap.size
 rest:∀b,¬S.syn b->W'.heap[b]?=W.heap[b]?
 y9:∀b,S.syn b->y9 W.heap[b]? W'.heap[b]?
def TL (s:Sh):Kind->Array Event->Prop
 | .atomic,es=>∀e∈es,∃a,e.loc= .cell a∧e.sync=true∧S.syn a.block
 | .disable,es=>es= #[⟨.mark .disable,false,true⟩]
 | .enable,es=>es= #[⟨.mark .enable,false,true⟩]
 | .clock,es=>∀e∈es,e.loc= .output
 | .said,es=>∃a,S.syn a.block∧(es= #[⟨.mark (.read a),false,true⟩]∨es= #[⟨.mark (.write a),false,true⟩])
 | .sem,es=>∃a,S.syn a.block∧es= #[⟨.mark .disable,false,true⟩,⟨.cell a,false,true⟩,⟨.cell a,true,true⟩,⟨.mark .enable,false,true⟩]
 | .uV,es=>∃a,S.gz s=some a∧es= #[⟨.mark (.acquire a),false,true⟩]
 | .uW,es=>∃a,S.gz s=some a∧es= #[⟨.mark (.releaseMerge a),false,true⟩]
 | .done,es=>∃a,S.oI s=some a∧es= #[⟨.mark (.releaseMerge a),false,true⟩]
 | .join,es=>∃a,S.oI s=some a∧es= #[⟨.mark (.acquire a),false,true⟩]
abbrev mh (T:Type):=Nat->T->(Nat->Prop)->Goroutine->World->Prop
def On (X:mh T) (i:Nat) (Tt:T) (own:Nat->Prop) (g:Goroutine) (W:World):Prop:=
 if S.quit Tt then ∃q,QuitsD P q (S.deaf Tt) g else Gw P (i==0) (S.Z i Tt) (X i Tt) own g W
def uq (X:mh T) (i:Nat) (Tt:T) (own:Nat->Prop) (g:Goroutine) (W:World):Prop:=
 g.status= .running∧((∃s,S.blk Tt s)->g.offers=none)∧∀s,S.Fq s W->S.fits i Tt s->
  if S.ret Tt then S.Anch Tt own g W
  else if S.fork Tt then
   ∃T' Tc s' g' child sO dK,S.sp Tt s T' Tc s'∧stepG P (i==0) g W= .spawn g' child W #[]∧S.Fq s' W∧(∀b,own b↔dK b∨sO b)∧(∀b,dK b->¬sO b)∧
    On P S X i T' dK g' W∧∀k,k≠0->On P S X k Tc sO child W
  else
   (S.blk Tt s∧stepG P (i==0) g W= .go { g with status:=.blocked } W #[])∨
   (¬S.blk Tt s∧∃T' s' g' W' es,S.mv i Tt s T' s'∧stepG P (i==0) g W= .go g' W' es∧(S.wakes Tt=true->mayWake P g=true)∧S.Fq s' W'∧eT S W W'∧TL S s (S.kind Tt) es∧
     match S.kind Tt with
     | .uV=>∀G,(∀b,G b->¬own b)->S.J s G W'->On P S X i T' (λb=>own b∨G b) g' W'
     | .uW=>∃G,(∀b,G b->own b)∧S.J s' G W'∧On P S X i T' (λb=>own b∧¬G b) g' W'
     | .done=>(∀D Dc,S.Dp s D Dc W'->S.Dp s' (λb=>D b∨own b) (λb k=>Dc b k∨(S.Z i Tt).cl b k) W')∧On P S X i T' (λ_=>False) g' W'
     | .join=>∀G D Dc dK,S.J s G W'->S.Dp s D Dc W'->(∀b,dK b->b<W'.heap.size∧¬S.syn b)->(∀b,own b->dK b)->(∀b,G b->dK b)->(∀b,D b->dK b)->On P S X i T' dK g' W'
     |_=>On P S X i T' own g' W')
def At (i:Nat) (Tt:T) (own:Nat->Prop) (g:Goroutine) (W:World):Prop:=
 ∃X:mh T,(∀i Tt own g W,X i Tt own g W->uq P S X i Tt own g W)∧X i Tt own g W
end
section
variable {T Sh:Type} {P:Program} {S:Sys T Sh}
theorem Gw.mono {main:Bool} {Z:gG} {X Y:(Nat->Prop)->Goroutine->World->Prop} (h:∀own g W,X own g W->Y own g W) {own:Nat->Prop} {g:Goroutine} {W:World} (hg:Gw P main Z X own g W):Gw P main Z Y own g W:=
 hg.bind λ_ _ _ hs=>.stop λW1 hr=>h _ _ _ (hs W1 hr)
theorem On.mono {X Y:mh T} (h:∀i Tt own g W,X i Tt own g W->Y i Tt own g W) {i:Nat} {Tt:T} {own:Nat->Prop} {g:Goroutine} {W:World} (ho:On P S X i Tt own g W):On P S Y i Tt own g W:=by
 unfold On at ho ⊢;split
 ·rename_i hq;rw [aj hq] at ho;exact ho
 ·rename_i hq;rw [aa hq] at ho;exact Gw.mono (h i Tt) ho
theorem uq.mono {X Y:mh T} (h:∀i Tt own g W,X i Tt own g W->Y i Tt own g W) {i:Nat} {Tt:T} {own:Nat->Prop} {g:Goroutine} {W:World} (hl:uq P S X i Tt own g W):uq P S Y i Tt own g W:=by
 obtain ⟨h1,h2,h3⟩:=hl;refine ⟨h1,h2, λs hs hf=>?_⟩;have h4:=h3 s hs hf;have on:∀{i Tt own g W},On P S X i Tt own g W->On P S Y i Tt own g W:= λx=>On.mono h x
 by_cases hr:S.ret Tt=true
 ·rw [aj hr] at h4 ⊢;exact h4
 ·rw [aa hr] at h4 ⊢
  by_cases hk:S.fork Tt=true
  ·rw [aj hk] at h4 ⊢;obtain ⟨T',Tc,s',g',child,sO,dK,a1,a2,a3,a4,a5,a6,a7⟩:=h4;exact ⟨T',Tc,s',g',child,sO,dK,a1,a2,a3,a4,a5,on a6, λk hk=>on (a7 k hk)⟩
  ·rw [aa hk] at h4 ⊢;rcases h4 with h4|⟨hb,T',s',g',W',es,a1,a2,a3,a4,a5,a6,a7⟩
   ·exact .inl h4
   ·refine .inr ⟨hb,T',s',g',W',es,a1,a2,a3,a4,a5,a6,?_⟩;cases hkd:S.kind Tt<;>rw [hkd] at a7<;>dsimp only at a7 ⊢
    case uV=>exact λG hG hJ=>on (a7 G hG hJ)
    case uW=>obtain ⟨G,b1,b2,b3⟩:=a7;exact ⟨G,b1,b2,on b3⟩
    case done=>exact ⟨a7.1,on a7.2⟩
    case join=>exact λG D Dc dK b1 b2 b3 b4 b5 b6=>on (a7 G D Dc dK b1 b2 b3 b4 b5 b6)
    all_goals exact on a7
theorem At.law {i:Nat} {Tt:T} {own:Nat->Prop} {g:Goroutine} {W:World} (h:At P S i Tt own g W):uq P S (At P S) i Tt own g W:=by
 obtain ⟨X,hX,hx⟩:=h;exact uq.mono (λi Tt own g W hx=>⟨X,hX,hx⟩) (hX _ _ _ _ _ hx)
theorem At.intro {X:mh T} (hX:∀i Tt own g W,X i Tt own g W->uq P S (λi Tt own g W=>X i Tt own g W∨At P S i Tt own g W) i Tt own g W) {i:Nat} {Tt:T} {own:Nat->Prop} {g:Goroutine} {W:World} (h:X i Tt own g W):At P S i Tt own g W:=by
 refine ⟨λi Tt own g W=>X i Tt own g W∨At P S i Tt own g W, λi Tt own g W hx=>?_,.inl h⟩;rcases hx with hx|hx
 ·exact hX _ _ _ _ _ hx
 ·exact uq.mono (λ_ _ _ _ _ x=>.inr x) hx.law
end
end
section
structure gN (γ:Gh) (n:Nat) (i:Nat) (Z:gG) (own:Nat->Prop):Prop where
 own:∀b,own b->b<n∧∀l,fZ l->lb l=b->γ.who l= .gV i
 cl:∀b k,Z.cl b k->Z.sy b∧γ.who (.obj b)= .pt∧∀a:Addr,a.block=b->a.off=k->γ.who (.cell a)= .gV i
 ro:∀b,Z.ro b->b<n∧∀l,fZ l->lb l=b->γ.who l= .ro
 sy:∀b,Z.sy b->b<n∧(γ.who (.obj b)= .sy∨γ.who (.obj b)= .pt)
section
variable {γ:Gh} {n:Nat} {i j:Nat} {Z Z':gG} {own dK:Nat->Prop} {W W1:World}
theorem gN.oJ (h:gN γ n i Z own) {b:Nat} (hb:own b):γ.who (.obj b)= .gV i:=(h.own b hb).2 _ trivial rfl
theorem gN.UF (h:gN γ n i Z own) {b:Nat} (hb:Z.ro b):γ.who (.obj b)= .ro:=(h.ro b hb).2 _ trivial rfl
theorem gN.rely (h:gN γ W.heap.size i Z own) (k:gN γ W.heap.size j Z' dK) (hij:i≠j) (hg:wM Z own W W1):dZ Z' dK W W1:=by
 refine hg.rely (λb hb=>(k.own b hb).1) (λb hb=>⟨λhb'=>?_, λhb'=>?_⟩) (λb hb=>(k.ro b hb).1) (λb hb=>⟨λhb'=>?_, λhb'=>?_⟩) (λb hb=>?_) λb c hb=>?_
 ·have :=(h.oJ hb').symm.trans (k.oJ hb);exact hij (Who.gV.inj this)
 ·rcases (h.sy b hb').2 with e|e<;>(have :=e.symm.trans (k.oJ hb);cases this)
 ·have :=(h.oJ hb').symm.trans (k.UF hb);cases this
 ·rcases (h.sy b hb').2 with e|e<;>(have :=e.symm.trans (k.UF hb);cases this)
 ·refine .inr ⟨(k.sy b hb).1, λhb'=>?_⟩;rcases (k.sy b hb).2 with e|e<;>(have :=(h.oJ hb').symm.trans e;cases this)
 ·obtain ⟨h1,_,h2⟩:=k.cl b c hb
  by_cases hz:Z.sy b
  ·refine .inl ⟨hz, λhb'=>?_⟩;have :=((h.cl b c hb').2.2 ⟨b,c,none⟩ rfl rfl).symm.trans (h2 ⟨b,c,none⟩ rfl rfl);exact hij (Who.gV.inj this)
  ·refine .inr ⟨(k.sy b h1).1, λhb'=>?_,hz⟩;rcases (k.sy b h1).2 with e|e<;>(have :=(h.oJ hb').symm.trans e;cases this)
open Classical in
noncomputable def grown (γ:Gh) (i:Nat) (n':Nat):Gh:={ γ with B:=n',who:= λl=>if fZ l∧γ.B<=lb l then .gV i else γ.who l }
theorem jF {i n':Nat} {l:Loc} (h:fZ l->lb l<γ.B):(grown γ i n').who l=γ.who l:=by
 unfold grown;dsimp only;rw [aa];rintro ⟨h1,h2⟩;have :=h h1;omega
theorem Ed {i n':Nat} {l:Loc} (h1:fZ l) (h2:γ.B<=lb l):(grown γ i n').who l= .gV i:=by
 unfold grown;dsimp only;rw [aj ⟨h1,h2⟩]
theorem gN.keep (h:gN γ γ.B j Z' dK) {i n':Nat} (hn:γ.B<=n'):gN (grown γ i n') n' j Z' dK:=by
 refine ⟨λb hb=>⟨aK (h.own b hb).1 hn, λl hl e=>?_⟩, λb c hb=>⟨(h.cl b c hb).1,?_, λa e1 e2=>?_⟩, λb hb=>⟨aK (h.ro b hb).1 hn, λl hl e=>?_⟩, λb hb=>⟨aK (h.sy b hb).1 hn,?_⟩⟩
 ·rw [jF λ_=>by rw [e];exact (h.own b hb).1];exact (h.own b hb).2 l hl e
 ·rw [jF (l:=.obj b) λ_=>(h.sy b (h.cl b c hb).1).1];exact (h.cl b c hb).2.1
 ·have hs:=(h.sy b (h.cl b c hb).1).1;rw [jF λ_=>by show a.block<γ.B;rw [e1];exact hs];exact (h.cl b c hb).2.2 a e1 e2
 ·rw [jF λ_=>by rw [e];exact (h.ro b hb).1];exact (h.ro b hb).2 l hl e
 ·rw [jF (l:=.obj b) λ_=>(h.sy b hb).1];exact (h.sy b hb).2
theorem gN.grow (h:gN γ W.heap.size i Z own) (hB:γ.B=W.heap.size) (hn:W.heap.size<=W1.heap.size):gN (grown γ i W1.heap.size) W1.heap.size i Z (grow own W W1):=by
 have hk:=gN.keep (i:=i) (n':=W1.heap.size) (by rw [hB];exact h) (by omega);refine ⟨λb hb=>?_,hk.cl,hk.ro,hk.sy⟩;rcases hb with hb|⟨h1,h2⟩
 ·exact hk.own b hb
 ·exact ⟨h2, λl hl e=>Ed hl (by omega)⟩
theorem TI.private {t:Trace} (h:TI γ t) (hr:gN γ W.heap.size i Z own) (hB:γ.B=W.heap.size) (hn:W.heap.size<=W1.heap.size) (hl:γ.live i) (ha:(i=0∨γ.act i)∨Z.mute) {es:Array Event} (he:∀e∈es,Rm Z (Par.grow own W W1) e) (fn:FuncId) (pos:String):TI (grown γ i W1.heap.size) (t++MemOp.ofEvents i fn pos es):=by
 by_cases hmt:Z.mute
 ·have hes:es= #[]:=by
   apply Array.eq_empty_of_size_eq_zero;apply bu;intro hne;have hp:0<es.size:=by omega
   exact (he es[0] (Array.getElem_mem hp)).1 hmt
  subst hes;have e:MemOp.ofEvents i fn pos #[]= #[]:=rfl;rw [e,Array.append_empty];have h1:TI { γ with who:=(grown γ i W1.heap.size).who } t:=h.P7 λl hl=>jF hl
  refine ⟨h1.gV,h1.ro,h1.sy,h1.lk, λj x hx hm=>?_,h1.ho,h1.nr,h1.nl⟩;have :=h1.new j x hx hm;show _<W1.heap.size;have hlt:lb x.loc<γ.B:=this;omega
 replace ha:=ha.resolve_right hmt;have hR:=hr.grow hB hn;have h1:TI { γ with who:=(grown γ i W1.heap.size).who } t:=h.P7 λl hl=>jF hl
 refine TI.app (γ:={ γ with who:=(grown γ i W1.heap.size).who }) (B':=W1.heap.size) h1 (by show γ.B<=_;omega) hl (λop hop=>?_) (λop hop x hx=>?_) ha (λop hop a e=>?_)
 ·obtain ⟨e,_,rfl⟩:=mem_ofEvents hop;rfl
 ·obtain ⟨e,hem,rfl⟩:=mem_ofEvents hop;have hev:=(he e hem).2;obtain ⟨loc,wr,sy⟩:=e;cases loc with
  |cell a=>
   obtain ⟨hs,hor⟩:=hev;have hs:sy=false:=hs;subst hs
   have hx':x=⟨.cell a,wr,.plain⟩:=by
    have :(MemAct.ofEvent ⟨.cell a,wr,false⟩).touch?=some ⟨.cell a,wr,.plain⟩:=by cases wr<;>rfl
    rw [this] at hx;exact (aU hx).symm
   subst hx';rcases hor with hor|⟨hor,hw⟩|hor
   ·exact ⟨.inl ((hR.own _ hor).2 _ trivial rfl), λ_=>(hR.own _ hor).1⟩
   ·exact ⟨.inr (.inl ⟨(hR.ro _ hor).2 _ trivial rfl,hw⟩), λ_=>(hR.ro _ hor).1⟩
   ·exact ⟨.inl ((hR.cl _ _ hor).2.2 a rfl rfl), λ_=>(hR.sy _ (hR.cl _ _ hor).1).1⟩
  |obj r=>
   obtain ⟨hs,hor⟩:=hev;have hs:sy=false:=hs;subst hs
   have hx':x=⟨.obj r,wr,.plain⟩:=by
    have :(MemAct.ofEvent ⟨.obj r,wr,false⟩).touch?=some ⟨.obj r,wr,.plain⟩:=by cases wr<;>rfl
    rw [this] at hx;exact (aU hx).symm
   subst hx';exact ⟨.inl (hR.oJ hor), λ_=>(hR.own _ hor).1⟩
  |mark m=>
   have hm:m= .noRoom:=hev;subst hm;exfalso;have :(MemAct.ofEvent ⟨.mark .noRoom,wr,sy⟩).touch?=none:=by cases wr<;>cases sy<;>rfl
   rw [this] at hx;cases hx
  |output=>exact hev.elim
  |goroutines=>exact hev.elim
 ·obtain ⟨e',hem,rfl⟩:=mem_ofEvents hop;have hev:=(he e' hem).2;obtain ⟨loc,wr,sy⟩:=e';cases loc with
  |mark m=>
   have hm:m= .noRoom:=hev;subst hm;have :MemAct.ofEvent ⟨.mark .noRoom,wr,sy⟩= .mark .noRoom:=by cases wr<;>cases sy<;>rfl
   have e:MemAct.ofEvent ⟨.mark .noRoom,wr,sy⟩= .mark (.release a):=e;rw [this] at e;cases e
  |cell _=>
   have e:MemAct.ofEvent ⟨.cell _,wr,sy⟩= .mark (.release a):=e;cases wr<;>cases sy<;>cases e
  |obj _=>
   have e:MemAct.ofEvent ⟨.obj _,wr,sy⟩= .mark (.release a):=e;cases wr<;>cases sy<;>cases e
  |output=>exact hev.elim
  |goroutines=>exact hev.elim
end
end
section
structure UG (T:Type) where
 Tt:T
 own:Nat->Prop
 g:Goroutine
 W:World
 tr:Tr
inductive TS (T:Type) where
 |gV (x:UG T)
 |lv (k d:Nat)
def TS.stop? {T:Type}:TS T->Option T
 | .gV x=>some x.Tt
 | .lv _ _=>none
def stops {T:Type} (θ:Nat->TS T):Nat->Option T:= λi=>(θ i).stop?
def upd {α:Type} (f:Nat->α) (i:Nat) (a:α):Nat->α:= λj=>if j=i then a else f j
@[simp] theorem upd_same {α:Type} (f:Nat->α) (i:Nat) (a:α):upd f i a i=a:=aj rfl
theorem upd_ne {α:Type} {f:Nat->α} {i j:Nat} {a:α} (h:j≠i):upd f i a j=f j:=aa h
def Kind.plain:Kind->Bool
 | .atomic| .disable| .enable| .clock| .said| .sem=>true
 |_=>false
def Kind.jO (d:Nat):Kind->Nat
 | .disable=>d+1
 | .enable=>d - 1
 |_=>d
structure Same {T Sh:Type} (S:Sys T Sh) (free:Sh->Prop) (s s':Sh):Prop where
 gz:S.gz s'=S.gz s
 oI:S.oI s'=S.oI s
 free:free s'↔free s
 J:∀G w,S.J s G w->S.J s' G w
 Dp:∀D Dc w,S.Dp s D Dc w->S.Dp s' D Dc w
structure uX {T Sh ρ:Type} (S:Sys T Sh) (AI:Nat->(Nat->Option T)->Sh->Prop) (free:Sh->Prop) (rk:Nat->(Nat->Option T)->Sh->ρ) (lt:ρ->ρ->Prop):Prop where
 wf:WellFounded lt
 fits:∀{n φ s i Tt},AI n φ s->i<n->φ i=some Tt->S.fits i Tt s∧S.quit Tt=false∧(S.fork Tt=true->i=0)∧(S.ret Tt=true->i=0)
 move:∀{n φ s i Tt T' s'},AI n φ s->i<n->φ i=some Tt->S.fork Tt=false->S.ret Tt=false->¬S.blk Tt s->S.mv i Tt s T' s'->
  AI n (upd φ i (if S.quit T' then none else some T')) s'∧lt (rk n (upd φ i (if S.quit T' then none else some T')) s') (rk n φ s)
 spawn:∀{n φ s Tt T' Tc s'},AI n φ s->φ 0=some Tt->S.fork Tt=true->S.sp Tt s T' Tc s'->
  AI (n+1) (upd (upd φ 0 (some T')) n (some Tc)) s'∧lt (rk (n+1) (upd (upd φ 0 (some T')) n (some Tc)) s') (rk n φ s)
 Oo:∀{n φ s Tt T' Tc s'},AI n φ s->φ 0=some Tt->S.fork Tt=true->S.sp Tt s T' Tc s'->
  Same S free s s'∧S.oI s≠none∧S.deaf Tt=0∧S.deaf T'=0∧S.deaf Tc=0∧S.past Tc=false∧S.quit T'=false∧S.quit Tc=false∧
  (∀b,(S.Z 0 T').ro b->(S.Z 0 Tt).ro b)∧(∀b,(S.Z 0 T').sy b->(S.Z 0 Tt).sy b)∧(∀b,(S.Z n Tc).ro b->(S.Z 0 Tt).ro b)∧(∀b,(S.Z n Tc).sy b->(S.Z 0 Tt).sy b)∧
  (∀b k,(S.Z 0 T').cl b k->(S.Z 0 T').sy b∧(S.Z 0 Tt).cl b k)∧(∀b k,(S.Z n Tc).cl b k->(S.Z n Tc).sy b∧(S.Z 0 Tt).cl b k∧¬(S.Z 0 T').cl b k)
 stay:∀{n φ s i Tt T' s'},AI n φ s->i<n->φ i=some Tt->¬S.blk Tt s->S.wakes Tt=false->(S.mv i Tt s T' s'∨∃Tc,S.sp Tt s T' Tc s')->∀j Tj,j<n->j≠i->φ j=some Tj->S.blk Tj s->S.blk Tj s'
 CL:∀Tt,S.fork Tt=true->S.wakes Tt=false∧∀s,¬S.blk Tt s
 jO:∀{n φ s i Tt T' s'},AI n φ s->i<n->φ i=some Tt->S.mv i Tt s T' s'->S.deaf T'=Kind.jO (S.deaf Tt) (S.kind Tt)
 plain:∀{n φ s i Tt T' s'},AI n φ s->i<n->φ i=some Tt->S.mv i Tt s T' s'->(S.kind Tt).plain=true->Same S free s s'∧S.Z i T'=S.Z i Tt∧S.past T'=S.past Tt
 uV:∀{n φ s i Tt T' s'},AI n φ s->i<n->φ i=some Tt->S.mv i Tt s T' s'->S.kind Tt= .uV->
  free s∧¬free s'∧S.gz s'=S.gz s∧S.oI s'=S.oI s∧S.oI s≠none∧S.deaf Tt=0∧(∀D Dc w,S.Dp s D Dc w->S.Dp s' D Dc w)∧S.Z i T'=S.Z i Tt∧S.past T'=S.past Tt∧S.quit T'=false
 uW:∀{n φ s i Tt T' s'},AI n φ s->i<n->φ i=some Tt->S.mv i Tt s T' s'->S.kind Tt= .uW->
  ¬free s∧S.gz s'=S.gz s∧S.oI s'=S.oI s∧S.oI s≠none∧S.deaf Tt=0∧(∀D Dc w,S.Dp s D Dc w->S.Dp s' D Dc w)∧S.Z i T'=S.Z i Tt∧S.past T'=S.past Tt∧S.quit T'=false
 done:∀{n φ s i Tt T' s'},AI n φ s->i<n->φ i=some Tt->S.mv i Tt s T' s'->S.kind Tt= .done->
  i≠0∧S.past Tt=false∧S.past T'=true∧S.deaf Tt=0∧S.gz s'=S.gz s∧S.oI s'=S.oI s∧S.oI s≠none∧(free s'↔free s)∧(∀G w,S.J s G w->S.J s' G w)∧
  (∀b,(S.Z i T').ro b->(S.Z i Tt).ro b)∧(∀b,(S.Z i T').sy b->(S.Z i Tt).sy b)∧(∀b k,¬(S.Z i T').cl b k)∧S.quit T'=false
 join:∀{n φ s i Tt T' s'},AI n φ s->i<n->φ i=some Tt->S.mv i Tt s T' s'->S.kind Tt= .join->
  i=0∧free s∧S.deaf Tt=0∧(∀j,j<n->j≠0->φ j=none)∧S.gz s'=none∧S.oI s'=none∧¬free s'∧(∀w,S.Dp s' (λ_=>False) (λ_ _=>False) w)∧
  (∀b,¬(S.Z 0 T').ro b)∧(∀b,¬(S.Z 0 T').sy b)∧(∀b k,¬(S.Z 0 T').cl b k)∧S.quit T'=false
 joined:∀{n φ s},AI n φ s->S.oI s=none->∀j,j<n->j≠0->φ j=none
 quits:∀{n φ s i Tt T' s'},AI n φ s->i<n->φ i=some Tt->S.mv i Tt s T' s'->S.quit T'=true->S.past T'=true∧i≠0
 Kt:∀{n φ s i Tt},AI n φ s->i<n->φ i=some Tt->(S.past Tt=true->i≠0∧(S.Z i Tt).mute∧S.kind Tt≠ .clock∧(S.kind Tt= .atomic->0<S.deaf Tt))∧(S.kind Tt= .said->i=0)
 alive:∀{n φ s},AI n φ s->∃i Tt,i<n∧φ i=some Tt∧¬S.blk Tt s
 Oq:∀Tt s,S.ret Tt=true->¬S.blk Tt s
 Jv:∀s w d,S.Fq s w->S.Fq s (w.at d)
 Af:∀s w w',S.Fq s w->(∀b,S.syn b->y9 w.heap[b]? w'.heap[b]?∧∀k,w'.cell? ⟨b,k,none⟩=w.cell? ⟨b,k,none⟩)->S.Fq s w'
 zz:∀s G w w',S.J s G w->(∀b,G b->w'.heap[b]?=w.heap[b]?)->S.J s G w'
 CO:∀s D Dc w w',S.Dp s D Dc w->(∀b,D b->w'.heap[b]?=w.heap[b]?)->(∀b i,Dc b i->w'.cell? ⟨b,i,none⟩=w.cell? ⟨b,i,none⟩)->S.Dp s D Dc w'
section
variable {T Sh:Type} (P:Program) (S:Sys T Sh) (AI:Nat->(Nat->Option T)->Sh->Prop) (free:Sh->Prop)
def One (w:World) (t:Trace) (s:Sh) (γ:Gh) (i:Nat) (g:Goroutine):TS T->Prop
 | .gV x=>(g=x.g∨(x.tr= .leaf∧S.blk x.Tt s∧g= { x.g with status:=.blocked }))∧Gr P (i==0) (S.Z i x.Tt) (At P S i x.Tt) x.tr x.own x.g x.W∧dZ (S.Z i x.Tt) x.own x.W w∧
     Deaf t i=S.deaf x.Tt∧γ.live i∧(i≠0->(γ.act i↔S.past x.Tt=false))∧gN γ w.heap.size i (S.Z i x.Tt) x.own
 | .lv k d=>QuitsD P k d g∧Deaf t i=d∧i≠0∧¬γ.act i
structure MI (O:Nat->Prop) (gs:Array Goroutine) (w:World) (t:Trace) (θ:Nat->TS T) (s:Sh) (γ:Gh) (G D:Nat->Prop) (Dc:Nat->Nat->Prop):Prop where
 one:∀i g,gs[i]?=some g->One P S w t s γ i g (θ i)
 main:∃x,θ 0= .gV x
 pos:0<gs.size
 ai:AI gs.size (stops θ) s
 rep:S.Fq s w
 ti:TI γ t
 B:γ.B=w.heap.size
 nums:∀op∈t,op.g<gs.size
 syn:∀b,S.syn b∨O b->b<w.heap.size∧∀l,fZ l->lb l=b->γ.who l= .sy
 zk:∀l,¬fZ l->γ.who l= .fr
 memo:∀l,fZ l->γ.who l≠ .fr∧(γ.who l= .sy->S.syn (lb l)∨O (lb l))
 CP:∀i,γ.act i->i<gs.size
 jn:S.oI s=none->∀l,fZ l->¬(S.syn (lb l)∨O (lb l))->γ.who l= .gV 0
 gz:γ.lock=S.gz s
 oI:γ.wg=S.oI s
 lk:free s->S.J s G w∧∀b,G b->b<w.heap.size∧∀l,fZ l->lb l=b->γ.who l= .lk
 dn:S.Dp s D Dc w∧(∀b,D b->b<w.heap.size∧∀l,fZ l->lb l=b->γ.who l= .dn)∧∀b k,Dc b k->b<w.heap.size∧γ.who (.obj b)= .pt∧∀a:Addr,a.block=b->a.off=k->γ.who (.cell a)= .dn
end
end
section
variable {O:Nat->Prop}
section
variable {T Sh ρ:Type} {P:Program} {S:Sys T Sh} {AI:Nat->(Nat->Option T)->Sh->Prop} {free:Sh->Prop} {rk:Nat->(Nat->Option T)->Sh->ρ} {lt:ρ->ρ->Prop}
theorem Gr.running {main:Bool} {Z:gG} {Stop:(Nat->Prop)->Goroutine->World->Prop} (hst:∀own g W,Stop own g W->g.status= .running) {tr:Tr} {own:Nat->Prop} {g:Goroutine} {W:World} (h:Gr P main Z Stop tr own g W):g.status= .running:=by
 cases tr with
 |leaf=>exact hst _ _ _ (h W (dZ.refl W))
 |node f=>exact h.1
theorem lQ {i:Nat} {Tt:T} {own:Nat->Prop} {g:Goroutine} {W:World} (h:At P S i Tt own g W):g.status= .running:=h.law.1
theorem Jw {i:Nat} {Tt:T} {own:Nat->Prop} {g:Goroutine} {W:World} (h:At P S i Tt own g W) {s:Sh} (hb:S.blk Tt s):g.offers=none:=h.law.2.1 ⟨s,hb⟩
theorem P8 {Z:gG} {own:Nat->Prop} (w:World) (d:Nat):dZ Z own w (w.at d):=⟨rfl,rfl,OsLater.refl _,aJ _, λ_ _=>rfl, λ_ _=>rfl, λ_ _=>y9.refl _, λ_ _ _=>rfl⟩
theorem zA {gs:Array Goroutine} {i j:Nat} {f:Goroutine->Goroutine} {g' gj:Goroutine} (h:((gs.map f).setIfInBounds i g')[j]?=some gj):(j=i∧gj=g'∧i<gs.size)∨(j≠i∧∃g0,gs[j]?=some g0∧gj=f g0):=by
 by_cases e:i=j
 ·subst e;have hlt:=(aI.1 h).1;simp only [Array.size_setIfInBounds,Array.size_map] at hlt;rw [aD (by simpa using hlt)] at h;exact .inl ⟨rfl,(aU h).symm,hlt⟩
 ·rw [au e,aG] at h;cases hg:gs[j]? with
  |none=>rw [hg] at h;cases h
  |some g0=>rw [hg] at h;exact .inr ⟨Ne.symm e,g0,rfl,(aU h).symm⟩
theorem Jy {w w2:World} {t:Trace} {s:Sh} {γ:Gh} {j:Nat} {gj g g':Goroutine} {CQ:TS T} (h:One P S w t s γ j gj CQ):One P S w t s γ j (woken P g g' w2 gj) CQ:=by
 cases CQ with
 |lv k d=>obtain ⟨h1,h2⟩:=h;exact ⟨by rw [woken_quitsD h1];exact h1,h2⟩
 |gV x=>
  obtain ⟨h1,h2,h3⟩:=h;have hrun:x.g.status= .running:=h2.running λ_ _ _=>lQ
  refine ⟨?_,h2,h3⟩;rcases h1 with rfl|⟨hl,hb,rfl⟩
  ·left;unfold woken;split
   ·exact again_running _ (.inl hrun)
   ·rfl
  ·have hoff:x.g.offers=none:=by
    rw [hl] at h2;exact Jw (h2 x.W (dZ.refl _)) hb
   unfold woken;split
   ·exact .inl (again_blocked hrun hoff _)
   ·exact .inr ⟨hl,hb,rfl⟩
theorem UH {Z:gG} {own:Nat->Prop} {es:Array Event} (h:∀e∈es,Rm Z own e):∀e∈es,e.loc≠ .mark .disable∧e.loc≠ .mark .enable:=by
 intro e he;have :=(h e he).2;obtain ⟨loc,wr,sy⟩:=e;cases loc with
 |mark m=>
  have hm:m= .noRoom:=this;subst hm;exact ⟨by simp,by simp⟩
 |_=>exact ⟨by simp,by simp⟩
theorem Rz {w w':World} {t u:Trace} {s:Sh} {γ:Gh} {i j:Nat} {gj:Goroutine} {CQ:TS T} {Z:gG} {own:Nat->Prop} (hj:j≠i) (hu:∀op∈u,op.g=i) (hB:γ.B=w.heap.size) (hR:gN γ w.heap.size i Z own) (hg:wM Z own w w')
 (h:One P S w t s γ j gj CQ):One P S w' (t++u) s (grown γ i w'.heap.size) j gj CQ:=by
 cases CQ with
 |lv k d=>
  obtain ⟨h1,h2,h3,h4⟩:=h;exact ⟨h1,by rw [Deaf_other t (Ne.symm hj) u hu];exact h2,h3,h4⟩
 |gV x=>
  obtain ⟨h1,h2,h3,h4,h5,h6,h7⟩:=h;have hk:=gN.keep (i:=i) (n':=w'.heap.size) (by rw [hB];exact h7) (by rw [hB];exact hg.size);exact ⟨h1,h2,h3.trans (hR.rely h7 (Ne.symm hj) hg),by rw [Deaf_other t (Ne.symm hj) u hu];exact h4,h5,h6,hk⟩
theorem MI.at {gs:Array Goroutine} {w:World} {t:Trace} {θ:Nat->TS T} {s:Sh} {γ:Gh} {G D:Nat->Prop} {Dc:Nat->Nat->Prop} (ok:uX S AI free rk lt) (h:MI P S AI free O gs w t θ s γ G D Dc) (d:Nat):MI P S AI free O gs (w.at d) t θ s γ G D Dc:=by
 refine ⟨λi g hi=>?_,h.main,h.pos,h.ai,ok.Jv s w d h.rep,h.ti,h.B,h.nums,h.syn,h.zk,h.memo,h.CP,h.jn,h.gz,h.oI, λhf=>⟨ok.zz s G w (w.at d) (h.lk hf).1 λ_ _=>rfl,(h.lk hf).2⟩,ok.CO s D Dc w (w.at d) h.dn.1 (λ_ _=>rfl) (λ_ _ _=>rfl),h.dn.2⟩;have :=h.one i g hi;cases yl:θ i with
 |lv k d=>rw [yl] at this;exact this
 |gV x=>
  rw [yl] at this;obtain ⟨h1,h2,h3,h4,h5,h6,h7⟩:=this;exact ⟨h1,h2,h3.trans (P8 w d),h4,h5,h6,h7⟩
theorem zB {t:Trace} {n i:Nat} (h:∀op∈t,op.g<n) (hi:i<n) (fn:FuncId) (pos:String) (es:Array Event):∀op∈t++MemOp.ofEvents i fn pos es,op.g<n:=by
 intro op hop;rcases Array.mem_append.1 hop with hop|hop
 ·exact h op hop
 ·obtain ⟨e,_,rfl⟩:=mem_ofEvents hop;exact hi
theorem MI.private {gs:Array Goroutine} {w:World} {t:Trace} {θ:Nat->TS T} {s:Sh} {γ:Gh} {G D:Nat->Prop} {Dc:Nat->Nat->Prop} (ok:uX S AI free rk lt) (h:MI P S AI free O gs w t θ s γ G D Dc)
 {i:Nat} {g:Goroutine} (hi:gs[i]?=some g) {x:UG T} (hx:θ i= .gV x) {f:World->Tr} (htr:x.tr= .node f):
 ∃g' w' es,stepG P (i==0) g w= .go g' w' es∧MI P S AI free O ((gs.map (woken P g g' w')).setIfInBounds i g') w' (t++MemOp.ofEvents i g.frame.fn g.frame.place es)
  (upd θ i (.gV { x with own:=grow x.own w w',g:=g',W:=w',tr:=f w })) s (grown γ i w'.heap.size) G D Dc:=by
 have h1:=h.one i g hi;rw [hx] at h1;obtain ⟨hgx,P9,Gy,oF,oZ,Ee,eX⟩:=h1
 have hgx:g=x.g:=by
  rcases hgx with e|⟨e,_⟩
  ·exact e
  ·rw [htr] at e;cases e
 subst hgx;have hlt:=(aI.1 hi).1
 have hact:(i=0∨γ.act i)∨(S.Z i x.Tt).mute:=by
  by_cases h0:i=0
  ·exact .inl (.inl h0)
  ·cases hp:S.past x.Tt with
   |false=>exact .inl (.inr ((Ee h0).2 hp))
   |true=>
    have hφ:stops θ i=some x.Tt:=by unfold stops;rw [hx];rfl
    exact .inr ((ok.Kt h.ai hlt hφ).1 hp).2.1
 rw [htr] at P9;obtain ⟨hrun,hstep⟩:=P9;obtain ⟨g',w',es,hgo,su,hev,hnext⟩:=hstep w Gy;have hu:∀op∈MemOp.ofEvents i x.g.frame.fn x.g.frame.place es,op.g=i:= λop hop=>by obtain ⟨e,_,rfl⟩:=mem_ofEvents hop;rfl
 have hkeep:∀b,b<w.heap.size->¬x.own b->¬(S.Z i x.Tt).sy b->w'.heap[b]?=w.heap[b]?:= λb h1 h2 h3=>su.rest b h1 h2 h3
 have XY:∀b,γ.who (.obj b)≠ .gV i->¬x.own b:= λb hb ho=>hb (eX.oJ ho)
 have XB:∀b,γ.who (.obj b)≠ .sy->γ.who (.obj b)≠ .pt->¬(S.Z i x.Tt).sy b:= λb hb hb' ho=>(eX.sy b ho).2.elim hb hb'
 refine ⟨g',w',es,hgo,⟨λj gj hj=>?_,?_,?_,?_,?_,?_,?_,?_, λb hb=>?_, λl hl=>?_, λl hl=>?_, λk hk=>?_, λhj l hl hns=>?_,h.gz,h.oI, λhf=>?_,?_⟩⟩
 ·rcases zA hj with ⟨rfl,rfl,_⟩|⟨hne,g0,hg0,rfl⟩
  ·rw [upd_same];exact ⟨.inl rfl,hnext,dZ.refl _,by rw [Deaf_own,deafBehind_still (UH hev)];exact oF,oZ,Ee,eX.grow h.B su.size⟩
  ·rw [upd_ne hne];exact Rz hne hu h.B eX su (Jy (h.one j g0 hg0))
 ·obtain ⟨y,hy⟩:=h.main
  by_cases h0:(0:Nat)=i
  ·subst h0;exact ⟨_,upd_same ..⟩
  ·exact ⟨y,by rw [upd_ne h0];exact hy⟩
 ·simpa using h.pos
 ·have e:stops (upd θ i (.gV { x with own:=grow x.own w w',g:=g',W:=w',tr:=f w }))=stops θ:=by
   funext j;unfold stops
   by_cases hj:j=i
   ·subst hj;rw [upd_same,hx];rfl
   ·rw [upd_ne hj]
  rw [e];simpa using h.ai
 ·refine ok.Af s w w' h.rep λb hb=>?_
  obtain ⟨h1,h2⟩:=h.syn b (.inl hb);have hw:=h2 (.obj b) trivial rfl
  by_cases hz:(S.Z i x.Tt).sy b
  ·refine ⟨(su.sy b hz).1, λk=>(su.sy b hz).2 k λhc=>?_⟩;have :=((eX.cl b k hc).2.2 ⟨b,k,none⟩ rfl rfl).symm.trans (h2 (.cell ⟨b,k,none⟩) trivial rfl);cases this
  ·have :=hkeep b h1 (XY b (by rw [hw];simp)) hz;refine ⟨by rw [this];exact y9.refl _, λk=>?_⟩;unfold World.cell?;simp only [this]
 ·exact h.ti.private eX h.B su.size oZ hact hev _ _
 ·rfl
 ·simpa using zB h.nums hlt _ _ _
 ·obtain ⟨h1,h2⟩:=h.syn b hb;exact ⟨aK h1 su.size, λl hl e=>by rw [jF λ_=>by rw [e,h.B];exact h1];exact h2 l hl e⟩
 ·rw [jF λhm=>absurd hm hl];exact h.zk l hl
 ·rcases bz (lb l) γ.B with hlt'|hge
  ·rw [jF λ_=>hlt'];exact h.memo l hl
  ·rw [Ed hl hge];exact ⟨by simp,by simp⟩
 ·simpa using h.CP k hk
 ·rcases bz (lb l) γ.B with hlt'|hge
  ·rw [jF λ_=>hlt'];exact h.jn hj l hl hns
  ·rw [Ed hl hge]
   have h0:i=0:=by
    apply bu;intro h0;have :=ok.joined h.ai hj i hlt h0;unfold stops at this;rw [hx] at this;cases this
   rw [h0]
 ·obtain ⟨h1,h2⟩:=h.lk hf;refine ⟨ok.zz s G w w' h1 λb hb=>?_, λb hb=>⟨aK (h2 b hb).1 su.size, λl hl e=>?_⟩⟩
  ·have hw:=(h2 b hb).2 (.obj b) trivial rfl;exact hkeep b (h2 b hb).1 (XY b (by rw [hw];simp)) (XB b (by rw [hw];simp) (by rw [hw];simp))
  ·rw [jF λ_=>by rw [e,h.B];exact (h2 b hb).1];exact (h2 b hb).2 l hl e
 ·obtain ⟨h1,h2,h3⟩:=h.dn;refine ⟨ok.CO s D Dc w w' h1 (λb hb=>?_) (λb k hb=>?_), λb hb=>⟨aK (h2 b hb).1 su.size, λl hl e=>?_⟩, λb k hb=>⟨aK (h3 b k hb).1 su.size,?_, λa e1 e2=>?_⟩⟩
  ·have hw:=(h2 b hb).2 (.obj b) trivial rfl;exact hkeep b (h2 b hb).1 (XY b (by rw [hw];simp)) (XB b (by rw [hw];simp) (by rw [hw];simp))
  ·obtain ⟨g1,g2,g3⟩:=h3 b k hb
   by_cases hz:(S.Z i x.Tt).sy b
   ·refine (su.sy b hz).2 k λhc=>?_
    have :=((eX.cl b k hc).2.2 ⟨b,k,none⟩ rfl rfl).symm.trans (g3 ⟨b,k,none⟩ rfl rfl);cases this
   ·have :=hkeep b g1 (XY b (by rw [g2];simp)) hz;unfold World.cell?;simp only [this]
  ·rw [jF λ_=>by rw [e,h.B];exact (h2 b hb).1];exact (h2 b hb).2 l hl e
  ·rw [jF (l:=.obj b) λ_=>by rw [h.B];exact (h3 b k hb).1];exact (h3 b k hb).2.1
  ·rw [jF (l:=.cell a) λ_=>by rw [h.B];show a.block<_;rw [e1];exact (h3 b k hb).1];exact (h3 b k hb).2.2 a e1 e2
theorem RA {w:World} {t u:Trace} {s:Sh} {γ:Gh} {i j:Nat} {gj:Goroutine} {CQ:TS T} (hj:j≠i) (hu:∀op∈u,op.g=i) (h:One P S w t s γ j gj CQ):One P S w (t++u) s γ j gj CQ:=by
 cases CQ with
 |lv k d=>
  obtain ⟨h1,h2,h3,h4⟩:=h;exact ⟨h1,by rw [Deaf_other t (Ne.symm hj) u hu];exact h2,h3,h4⟩
 |gV x=>
  obtain ⟨h1,h2,h3,h4,h5,h6,h7⟩:=h;exact ⟨h1,h2,h3,by rw [Deaf_other t (Ne.symm hj) u hu];exact h4,h5,h6,h7⟩
theorem CR {e:Event} (h:e.mute=true) (a:Addr):MemAct.ofEvent e≠ .mark (.release a):=by
 obtain ⟨loc,wr,sy⟩:=e;cases loc<;>simp_all [Event.mute];rename_i m;cases m<;>simp_all [MemAct.ofEvent]
theorem MI.leaver {gs:Array Goroutine} {w:World} {t:Trace} {θ:Nat->TS T} {s:Sh} {γ:Gh} {G D:Nat->Prop} {Dc:Nat->Nat->Prop} (h:MI P S AI free O gs w t θ s γ G D Dc)
 {i:Nat} {g:Goroutine} (hi:gs[i]?=some g) {k d:Nat} (hx:θ i= .lv k d) (hrun:g.status= .running):
 ∃k' d' g' es,k=k'+1∧stepG P (i==0) g w= .go g' w es∧MI P S AI free O ((gs.map (woken P g g' w)).setIfInBounds i g') w (t++MemOp.ofEvents i g.frame.fn g.frame.place es) (upd θ i (.lv k' d')) s γ G D Dc:=by
 have h1:=h.one i g hi;rw [hx] at h1;obtain ⟨hq,hd,h0,hna⟩:=h1;have hlt:=(aI.1 hi).1;have e0:(i==0)=false:=by simpa using h0
 cases k with
 |zero=>rw [hq.1] at hrun;cases hrun
 |succ k=>
  rcases hq with ⟨hq,_⟩|⟨_,g',es,hm,hst,hq⟩
  ·rw [hq] at hrun;cases hrun
  ·have hu:∀op∈MemOp.ofEvents i g.frame.fn g.frame.place es,op.g=i:= λop hop=>by obtain ⟨e,_,rfl⟩:=mem_ofEvents hop;rfl
   refine ⟨k,deafBehind d es,g',es,rfl,by rw [e0];exact hst w,⟨λj gj hj=>?_,?_,by simpa using h.pos,?_,h.rep,?_,h.B,by simpa using zB h.nums hlt _ _ _,h.syn,h.zk,h.memo, λk hk=>by simpa using h.CP k hk,h.jn,h.gz,h.oI,h.lk,h.dn⟩⟩
   ·rcases zA hj with ⟨rfl,rfl,_⟩|⟨hne,g0,hg0,rfl⟩
    ·rw [upd_same];exact ⟨hq,by rw [Deaf_own,hd],h0,hna⟩
    ·rw [upd_ne hne];exact RA hne hu (Jy (h.one j g0 hg0))
   ·obtain ⟨y,hy⟩:=h.main;exact ⟨y,by rw [upd_ne (Ne.symm h0)];exact hy⟩
   ·have e:stops (upd θ i (.lv k (deafBehind d es)))=stops θ:=by
     funext j;unfold stops
     by_cases hj:j=i
     ·subst hj;rw [upd_same,hx];rfl
     ·rw [upd_ne hj]
    rw [e];simpa using h.ai
   ·exact h.ti.Om (λop hop=>by obtain ⟨e,he,rfl⟩:=mem_ofEvents hop;exact touch_mute (hm e he)) (λop hop a=>by obtain ⟨e,he,rfl⟩:=mem_ofEvents hop;exact CR (hm e he) a)
theorem MI.waits {gs:Array Goroutine} {w:World} {t:Trace} {θ:Nat->TS T} {s:Sh} {γ:Gh} {G D:Nat->Prop} {Dc:Nat->Nat->Prop} (h:MI P S AI free O gs w t θ s γ G D Dc)
 {i:Nat} {x:UG T} (hi:gs[i]?=some x.g) (hx:θ i= .gV x) (hl:x.tr= .leaf) (hb:S.blk x.Tt s):
 MI P S AI free O (gs.setIfInBounds i { x.g with status:=.blocked }) w t θ s γ G D Dc:=by
 refine ⟨λj gj hj=>?_,h.main,by simpa using h.pos,by simpa using h.ai,h.rep,h.ti,h.B,by simpa using h.nums,h.syn,h.zk,h.memo, λk hk=>by simpa using h.CP k hk,h.jn,h.gz,h.oI,h.lk,h.dn⟩;have hj':((gs.map id).setIfInBounds i { x.g with status:=.blocked })[j]?=some gj:=by simpa using hj
 rcases zA hj' with ⟨rfl,rfl,_⟩|⟨hne,g0,hg0,hgj⟩
 ·have h1:=h.one j x.g hi;rw [hx] at h1 ⊢;obtain ⟨_,h2⟩:=h1;exact ⟨.inr ⟨hl,hb,rfl⟩,h2⟩
 ·have :gj=g0:=hgj;rw [this];exact h.one j g0 hg0
end
end
section
variable {O:Nat->Prop}
theorem Gz {t:Trace} {g:Nat}:∀(l:List MemOp),(∀op∈l,op.act≠ .mark .disable∧op.act≠ .mark .enable)->∀m,m<=l.length->(t++(⟨l⟩:Trace)).deaf g (t.size+m)=Deaf t g:=by
 intro l hl m
 induction m with
 |zero=>intro _;exact deaf_old (aJ _)
 |succ m ih=>
  intro hm;have hlt:m<l.length:=by omega
  have hget:(t++(⟨l⟩:Trace))[t.size+m]?=some l[m]:=by
   rw [Array.getElem?_append_right (by omega)];simp [hlt]
  rw [<-Nat.add_assoc,deaf_succ hget,ih (by omega)];obtain ⟨h1,h2⟩:=hl l[m] (aY hlt);unfold deafStep;split
  ·rename_i h;exact absurd h h1
  ·rename_i h;exact absurd h h2
  ·rfl
section
variable {T Sh ρ:Type} {P:Program} {S:Sys T Sh} {AI:Nat->(Nat->Option T)->Sh->Prop} {free:Sh->Prop} {rk:Nat->(Nat->Option T)->Sh->ρ} {lt:ρ->ρ->Prop}
theorem RB {γ:Gh} {w w':World} {j:Nat} {Z:gG} {own:Nat->Prop} (AB:∀b,S.syn b->b<w.heap.size∧∀l,fZ l->lb l=b->γ.who l= .sy) (h:gN γ w.heap.size j Z own) (hst:eT S w w'):dZ Z own w w':=by
 refine ⟨hst.tape,hst.out,hst.os,by rw [hst.size];exact aJ _, λb hb=>hst.rest b λhs=>?_, λb hb=>hst.rest b λhs=>?_, λb hb=>?_, λb k hb=>?_⟩
 ·have :=((AB b hs).2 (.obj b) trivial rfl).symm.trans (h.oJ hb);cases this
 ·have :=((AB b hs).2 (.obj b) trivial rfl).symm.trans (h.UF hb);cases this
 ·by_cases hs:S.syn b
  ·exact hst.y9 b hs
  ·rw [hst.rest b hs];exact y9.refl _
 ·have :¬S.syn b:= λhs=>by
   have :=((AB b hs).2 (.cell ⟨b,k,none⟩) trivial rfl).symm.trans ((h.cl b k hb).2.2 ⟨b,k,none⟩ rfl rfl);cases this
  unfold World.cell?;simp only [hst.rest b this]
theorem gN.size {γ:Gh} {n n':Nat} (e:n'=n) {i:Nat} {Z:gG} {own:Nat->Prop} (h:gN γ n i Z own):gN γ n' i Z own:=e ▸ h
theorem TI.RD {t:Trace} {γ:Gh} {i:Nat} {w:World} {s:Sh} {k:Kind} {es:Array Event} (h:TI γ t) (hB:γ.B=w.heap.size) (AB:∀b,S.syn b->b<w.heap.size∧∀l,fZ l->lb l=b->γ.who l= .sy) (hno:∀l,¬fZ l->γ.who l= .fr)
 (hl:γ.live i) (hk:k.plain=true) (he:TL S s k es) (hp:(i=0∨γ.act i)∨(k≠ .clock∧(k= .atomic->0<Deaf t i))) (hsaid:k= .said->i=0) (fn:FuncId) (pos:String):TI γ (t++MemOp.ofEvents i fn pos es):=by
 have marks:∀m:Mark,(∀a,m≠ .read a∧m≠ .write a∧m≠ .release a)->es= #[⟨.mark m,false,true⟩]->TI γ (t++MemOp.ofEvents i fn pos es):=by
  intro m hm e;subst e;refine h.Om (λop hop=>?_) (λop hop a=>?_)
  ·obtain ⟨e,he,rfl⟩:=mem_ofEvents hop;simp at he;subst he;have :(MemAct.ofEvent ⟨.mark m,false,true⟩)= .mark m:=rfl;simp only [this];cases m<;>first |rfl|exact absurd rfl (hm _).1|exact absurd rfl (hm _).2.1
  ·obtain ⟨e,he,rfl⟩:=mem_ofEvents hop;simp at he;subst he;intro hx;have hx:MemAct.mark m= .mark (.release a):=hx;cases hx;exact (hm a).2.2 rfl
 have hg:∀op∈MemOp.ofEvents i fn pos es,op.g=i:= λop hop=>by obtain ⟨e,_,rfl⟩:=mem_ofEvents hop;rfl
 cases k with
 |disable=>exact marks .disable (λa=>⟨by simp,by simp,by simp⟩) he
 |enable=>exact marks .enable (λa=>⟨by simp,by simp,by simp⟩) he
 |atomic=>
  have he:∀e∈es,∃a,e.loc= .cell a∧e.sync=true∧S.syn a.block:=he
  have tch:∀op∈MemOp.ofEvents i fn pos es,∃a wr,op.act= .access ⟨.cell a,wr,true⟩∧S.syn a.block:=by
   intro op hop;obtain ⟨e,hem,rfl⟩:=mem_ofEvents hop;obtain ⟨a,h1,h2,h3⟩:=he e hem;obtain ⟨loc,wr,sy⟩:=e;simp only at h1 h2;subst h1 h2;exact ⟨a,wr,by cases wr<;>rfl,h3⟩
  have hrel:∀op∈MemOp.ofEvents i fn pos es,∀a,op.act≠ .mark (.release a):=by
   intro op hop a e;obtain ⟨b,wr,h1,_⟩:=tch op hop;rw [h1] at e;cases e
  rcases hp with hp|⟨_,hp⟩
  ·have :=h.app (B':=γ.B) (aJ _) hl hg (λop hop x hx=>?_) hp hrel
   ·exact this
   ·obtain ⟨a,wr,h1,h2⟩:=tch op hop;rw [h1] at hx;have :x=⟨.cell a,wr,.atomic⟩:=(aU hx).symm;subst this;exact ⟨.inr (.inr (.inl ⟨(AB _ h2).2 _ trivial rfl,by simp,by simp⟩)), λ_=>by rw [hB];exact (AB _ h2).1⟩
  ·refine h.P6 hl hg (λop hop x hx=>?_) (λp op hge hop hp' hc=>?_) hrel
   ·obtain ⟨a,wr,h1,h2⟩:=tch op hop;rw [h1] at hx;have :x=⟨.cell a,wr,.atomic⟩:=(aU hx).symm;subst this;exact ⟨(AB _ h2).2 _ trivial rfl,rfl, λ_=>by rw [hB];exact (AB _ h2).1⟩
   ·obtain ⟨a,wr,h1,h2⟩:=tch op hop;obtain ⟨x,hx,_,hor⟩:=hc;have hx':touchAt (t++MemOp.ofEvents i fn pos es) p=some x:=hx;rw [touchAt_of hp',h1] at hx';have :x=⟨.cell a,wr,.atomic⟩:=(aU hx').symm;subst this;rcases hor with hor|⟨g',hg1,hg2⟩
    ·exact hor rfl
    ·have hgi:g'=i:=by
      have :(t++MemOp.ofEvents i fn pos es).g? p=some op.g:=by simp [Trace.g?,hp']
      rw [this] at hg1;exact (aU hg1).symm.trans (hg op hop)
     subst hgi;have hd:=hp rfl;obtain ⟨m,rfl⟩:=Nat.exists_eq_add_of_le hge
     have hm:m<=(MemOp.ofEvents g' fn pos es).toList.length:=by
      have :=lt_size_of_getElem? hp';simp at this ⊢;omega
     have :=Gz (t:=t) (g:=g') (MemOp.ofEvents g' fn pos es).toList (λop hop=>?_) m hm
     ·rw [show (⟨(MemOp.ofEvents g' fn pos es).toList⟩:Trace)=MemOp.ofEvents g' fn pos es from rfl,hg2] at this;omega
     ·obtain ⟨a,wr,h1,_⟩:=tch op (by simpa using hop);rw [h1];exact ⟨by simp,by simp⟩
 |clock=>
  have he:∀e∈es,e.loc= .output:=he;rcases hp with hp|⟨hp,_⟩
  ·have :=h.app (B':=γ.B) (aJ _) hl hg (λop hop x hx=>?_) hp (λop hop a e=>?_)
   ·exact this
   ·obtain ⟨e,hem,rfl⟩:=mem_ofEvents hop;have :=he e hem;obtain ⟨loc,wr,sy⟩:=e;simp only at this;subst this
    have hx1:x.loc= .output:=by
     have :(MemAct.ofEvent ⟨.output,wr,sy⟩).touch?=some ⟨.output,wr,if sy then .atomic else .plain⟩:=by cases wr<;>cases sy<;>rfl
     rw [this] at hx;rw [<-aU hx]
    exact ⟨.inr (.inr (.inr ⟨by rw [hx1];exact hno _ (λx=>x),by rw [hx1];exact λx=>x⟩)), λhm=>by rw [hx1] at hm;exact hm.elim⟩
   ·obtain ⟨e',hem,rfl⟩:=mem_ofEvents hop;have :=he e' hem;obtain ⟨loc,wr,sy⟩:=e';simp only at this;subst this;cases wr<;>cases sy<;>cases e
  ·exact absurd rfl hp
 |sem=>
  obtain ⟨a,ha,rfl⟩:∃a:Addr,S.syn a.block∧es= #[⟨.mark .disable,false,true⟩,⟨.cell a,false,true⟩,⟨.cell a,true,true⟩,⟨.mark .enable,false,true⟩]:=he
  have e:t++MemOp.ofEvents i fn pos #[⟨.mark .disable,false,true⟩,⟨.cell a,false,true⟩,⟨.cell a,true,true⟩,⟨.mark .enable,false,true⟩]=
   ((t++ #[{ g:=i,fn:=fn,pos:=pos,act:=.mark .disable }])++ #[{ g:=i,fn:=fn,pos:=pos,act:=.access ⟨.cell a,false,true⟩ },{ g:=i,fn:=fn,pos:=pos,act:=.access ⟨.cell a,true,true⟩ }])++ #[{ g:=i,fn:=fn,pos:=pos,act:=.mark .enable }]:=by
   rw [ofEvents_eq];apply Array.ext';simp [MemAct.ofEvent]
  rw [e];have h1:TI γ (t++ #[{ g:=i,fn:=fn,pos:=pos,act:=.mark .disable }]):=h.still rfl (by simp)
  have hd1:Deaf (t++ #[{ g:=i,fn:=fn,pos:=pos,act:=.mark .disable }]) i=Deaf t i+1:=by
   rw [Deaf_push];unfold deafStep;simp
  refine TI.still ?_ rfl (by simp)
  generalize t++ #[{ g:=i,fn:=fn,pos:=pos,act:=.mark .disable }]=t1 at h1 hd1;refine h1.P6 hl (λop hop=>?_) (λop hop x hx=>?_) (λp op hge hop hp' hc=>?_) (λop hop b e=>?_)
  ·have :op= { g:=i,fn:=fn,pos:=pos,act:=.access ⟨.cell a,false,true⟩ }∨op= { g:=i,fn:=fn,pos:=pos,act:=.access ⟨.cell a,true,true⟩ }:=by simpa using hop
   rcases this with rfl|rfl<;>rfl
  ·have :op= { g:=i,fn:=fn,pos:=pos,act:=.access ⟨.cell a,false,true⟩ }∨op= { g:=i,fn:=fn,pos:=pos,act:=.access ⟨.cell a,true,true⟩ }:=by simpa using hop
   rcases this with rfl|rfl
   ·have :x=⟨.cell a,false,.atomic⟩:=(aU hx).symm;subst this;exact ⟨(AB _ ha).2 _ trivial rfl,rfl, λ_=>by rw [hB];exact (AB _ ha).1⟩
   ·have :x=⟨.cell a,true,.atomic⟩:=(aU hx).symm;subst this;exact ⟨(AB _ ha).2 _ trivial rfl,rfl, λ_=>by rw [hB];exact (AB _ ha).1⟩
  ·have two:op= { g:=i,fn:=fn,pos:=pos,act:=.access ⟨.cell a,false,true⟩ }∨op= { g:=i,fn:=fn,pos:=pos,act:=.access ⟨.cell a,true,true⟩ }:=by simpa using hop
   have og:op.g=i:=by rcases two with rfl|rfl<;>rfl
   obtain ⟨x,hx,_,hor⟩:=hc;have hx':touchAt (t1++ #[{ g:=i,fn:=fn,pos:=pos,act:=.access ⟨.cell a,false,true⟩ },{ g:=i,fn:=fn,pos:=pos,act:=.access ⟨.cell a,true,true⟩ }]) p=some x:=hx;rw [touchAt_of hp'] at hx'
   have hxk:x.kind= .atomic:=by
    rcases two with rfl|rfl
    ·rw [<-aU hx'];rfl
    ·rw [<-aU hx'];rfl
   rcases hor with hor|⟨g',hg1,hg2⟩
   ·exact hor hxk
   ·have hgi:g'=i:=by
     have :Trace.g? (t1++ #[{ g:=i,fn:=fn,pos:=pos,act:=.access ⟨.cell a,false,true⟩ },{ g:=i,fn:=fn,pos:=pos,act:=.access ⟨.cell a,true,true⟩ }]) p=some op.g:=by simp [Trace.g?,hp']
     rw [this] at hg1;exact (aU hg1).symm.trans og
    subst hgi;obtain ⟨m,rfl⟩:=Nat.exists_eq_add_of_le hge
    have hm:m<= [({ g:=g',fn:=fn,pos:=pos,act:=.access ⟨.cell a,false,true⟩ }:MemOp),{ g:=g',fn:=fn,pos:=pos,act:=.access ⟨.cell a,true,true⟩ }].length:=by
     have :=lt_size_of_getElem? hp';simp at this ⊢;omega
    have :=Gz (t:=t1) (g:=g') [({ g:=g',fn:=fn,pos:=pos,act:=.access ⟨.cell a,false,true⟩ }:MemOp),{ g:=g',fn:=fn,pos:=pos,act:=.access ⟨.cell a,true,true⟩ }] (λop hop=>by simp at hop;rcases hop with rfl|rfl<;>simp) m hm;rw [hg2,hd1] at this;omega
  ·have :op= { g:=i,fn:=fn,pos:=pos,act:=.access ⟨.cell a,false,true⟩ }∨op= { g:=i,fn:=fn,pos:=pos,act:=.access ⟨.cell a,true,true⟩ }:=by simpa using hop
   rcases this with rfl|rfl<;>cases e
 |said=>
  have h0:=hsaid rfl;subst h0;obtain ⟨a,ha,hor⟩:∃a:Addr,S.syn a.block∧(es= #[⟨.mark (.read a),false,true⟩]∨es= #[⟨.mark (.write a),false,true⟩]):=he;have :=h.app (B':=γ.B) (aJ _) hl hg (λop hop x hx=>?_) (.inl rfl) (λop hop b e=>?_)
  ·exact this
  ·obtain ⟨e,hem,rfl⟩:=mem_ofEvents hop
   have hx1:x.loc= .cell a∧x.kind= .said:=by
    rcases hor with rfl|rfl<;>simp at hem<;>subst hem
    ·have :x=⟨.cell a,false,.said⟩:=(aU hx).symm;subst this;exact ⟨rfl,rfl⟩
    ·have :x=⟨.cell a,true,.said⟩:=(aU hx).symm;subst this;exact ⟨rfl,rfl⟩
   exact ⟨.inr (.inr (.inl ⟨by rw [hx1.1];exact (AB _ ha).2 _ trivial rfl,by rw [hx1.2];simp, λ_=>rfl⟩)), λ_=>by rw [hx1.1,hB];exact (AB _ ha).1⟩
  ·obtain ⟨e',hem,rfl⟩:=mem_ofEvents hop;rcases hor with rfl|rfl<;>simp at hem<;>subst hem<;>cases e
 |_=>cases hk
theorem l6 {s:Sh} {k:Kind} {es:Array Event} (he:TL S s k es) (d:Nat):deafBehind d es=Kind.jO d k:=by
 have one:∀m:Mark,m≠ .disable->m≠ .enable->es= #[⟨.mark m,false,true⟩]->deafBehind d es=d:=by
  intro m h1 h2 e;subst e;exact deafBehind_still (λe he=>by simp at he;subst he;exact ⟨by simpa using h1,by simpa using h2⟩) d
 cases k with
 |atomic=>exact deafBehind_still (λe hem=>by obtain ⟨a,h1,_⟩:=(show ∀e∈es,∃a,e.loc= .cell a∧e.sync=true∧S.syn a.block from he) e hem;rw [h1];exact ⟨by simp,by simp⟩) d
 |clock=>exact deafBehind_still (λe hem=>by have h1:=(show ∀e∈es,e.loc= .output from he) e hem;rw [h1];exact ⟨by simp,by simp⟩) d
 |disable=>have he:es=_:=he;subst he;rfl
 |enable=>have he:es=_:=he;subst he;rfl
 |sem=>obtain ⟨a,_,rfl⟩:=(show ∃a:Addr,S.syn a.block∧es= #[⟨.mark .disable,false,true⟩,⟨.cell a,false,true⟩,⟨.cell a,true,true⟩,⟨.mark .enable,false,true⟩] from he);simp [deafBehind,Kind.jO]
 |said=>
  obtain ⟨a,_,h1|h1⟩:=(show ∃a:Addr,S.syn a.block∧(es= #[⟨.mark (.read a),false,true⟩]∨es= #[⟨.mark (.write a),false,true⟩]) from he)
  ·exact one _ (by simp) (by simp) h1
  ·exact one _ (by simp) (by simp) h1
 |uV=>obtain ⟨a,_,h1⟩:=(show ∃a,S.gz s=some a∧es= #[⟨.mark (.acquire a),false,true⟩] from he);exact one _ (by simp) (by simp) h1
 |uW=>obtain ⟨a,_,h1⟩:=(show ∃a,S.gz s=some a∧es= #[⟨.mark (.releaseMerge a),false,true⟩] from he);exact one _ (by simp) (by simp) h1
 |done=>obtain ⟨a,_,h1⟩:=(show ∃a,S.oI s=some a∧es= #[⟨.mark (.releaseMerge a),false,true⟩] from he);exact one _ (by simp) (by simp) h1
 |join=>obtain ⟨a,_,h1⟩:=(show ∃a,S.oI s=some a∧es= #[⟨.mark (.acquire a),false,true⟩] from he);exact one _ (by simp) (by simp) h1
theorem GA {w w2:World} {t:Trace} {s s':Sh} {γ:Gh} {j:Nat} {gj g g':Goroutine} {CQ:TS T} (h:One P S w t s γ j gj CQ)
 (hb:∀y,CQ= .gV y->S.blk y.Tt s->S.blk y.Tt s'∨(mayWake P g=true∧g'.status≠ .blocked∧g'.status≠ .waiting)):One P S w t s' γ j (woken P g g' w2 gj) CQ:=by
 cases CQ with
 |lv k d=>obtain ⟨h1,h2⟩:=h;exact ⟨by rw [woken_quitsD h1];exact h1,h2⟩
 |gV x=>
  obtain ⟨h1,h2,h3⟩:=h;have hrun:x.g.status= .running:=h2.running λ_ _ _=>lQ
  refine ⟨?_,h2,h3⟩;rcases h1 with rfl|⟨hl,hbl,rfl⟩
  ·left;unfold woken;split
   ·exact again_running _ (.inl hrun)
   ·rfl
  ·have hoff:x.g.offers=none:=by
    rw [hl] at h2;exact Jw (h2 x.W (dZ.refl _)) hbl
   unfold woken;split
   ·exact .inl (again_blocked hrun hoff _)
   ·rename_i hw;rcases hb x rfl hbl with hb|⟨h4,h5,h6⟩
    ·exact .inr ⟨hl,hb,rfl⟩
    ·exfalso;apply hw;simp [h4,h5,h6]
theorem xy {X:mh T} (hst:∀i Tt own g W,X i Tt own g W->g.status= .running) {i:Nat} {Tt:T} {own:Nat->Prop} {g:Goroutine} {W:World} (h:On P S X i Tt own g W):g.status≠ .blocked∧g.status≠ .waiting:=by
 unfold On at h;split at h
 ·obtain ⟨q,hq⟩:=h;rcases hq.status with h|h<;>rw [h]<;>exact ⟨by simp,by simp⟩
 ·obtain ⟨tr,htr⟩:=h.rank;have :=htr.running (hst i Tt);rw [this];exact ⟨by simp,by simp⟩
theorem Mm {w w':World} {t u:Trace} {s0:Sh} {γ:Gh} {i j:Nat} {gj:Goroutine} {CQ:TS T} (hj:j≠i) (hu:∀op∈u,op.g=i) (AB:∀b,S.syn b->b<w.heap.size∧∀l,fZ l->lb l=b->γ.who l= .sy) (hst:eT S w w')
 (h:One P S w t s0 γ j gj CQ):One P S w' (t++u) s0 γ j gj CQ:=by
 cases CQ with
 |lv k d=>
  obtain ⟨h1,h2,h3,h4⟩:=h;exact ⟨h1,by rw [Deaf_other t (Ne.symm hj) u hu];exact h2,h3,h4⟩
 |gV x=>
  obtain ⟨h1,h2,h3,h4,h5,h6,h7⟩:=h;exact ⟨h1,h2,h3.trans (RB AB h7 hst),by rw [Deaf_other t (Ne.symm hj) u hu];exact h4,h5,h6,h7.size hst.size⟩
theorem MI.RF {gs:Array Goroutine} {w:World} {t:Trace} {θ:Nat->TS T} {s:Sh} {γ:Gh} {G D:Nat->Prop} {Dc:Nat->Nat->Prop} (ok:uX S AI free rk lt) (h:MI P S AI free O gs w t θ s γ G D Dc)
 {i:Nat} {x:UG T} (hi:gs[i]?=some x.g) (hx:θ i= .gV x) {T':T} {s':Sh} {g':Goroutine} {w':World} {es:Array Event}
 (hf:S.fork x.Tt=false) (hr:S.ret x.Tt=false) (hb:¬S.blk x.Tt s) (hmv:S.mv i x.Tt s T' s') (hwk:S.wakes x.Tt=true->mayWake P x.g=true) (uH:S.Fq s' w') (hst:eT S w w') (he:TL S s (S.kind x.Tt) es) (hk:(S.kind x.Tt).plain=true)
 (hon:On P S (At P S) i T' x.own g' w'):
 ∃uY,MI P S AI free O ((gs.map (woken P x.g g' w')).setIfInBounds i g') w' (t++MemOp.ofEvents i x.g.frame.fn x.g.frame.place es) (upd θ i uY) s' γ G D Dc∧stops (upd θ i uY)=upd (stops θ) i (if S.quit T' then none else some T'):=by
 have h1:=h.one i x.g hi;rw [hx] at h1;obtain ⟨_,P9,Gy,oF,oZ,Ee,eX⟩:=h1;have hlt:=(aI.1 hi).1;have hφ:stops θ i=some x.Tt:=by unfold stops;rw [hx];rfl
 obtain ⟨hsame,hZ,hpast⟩:=ok.plain h.ai hlt hφ hmv hk;have hdf:=ok.jO h.ai hlt hφ hmv;obtain ⟨hai,_⟩:=ok.move h.ai hlt hφ hf hr hb hmv;obtain ⟨aw6,aw7⟩:=ok.Kt h.ai hlt hφ;have hu:∀op∈MemOp.ofEvents i x.g.frame.fn x.g.frame.place es,op.g=i:= λop hop=>by obtain ⟨e,_,rfl⟩:=mem_ofEvents hop;rfl
 have am9:=xy (λ_ _ _ _ _=>lQ) hon
 obtain ⟨uY,CS⟩:∃uY:TS T,One P S w' (t++MemOp.ofEvents i x.g.frame.fn x.g.frame.place es) s' γ i g' uY∧uY.stop?=(if S.quit T' then none else some T')∧(i=0->∃y,uY= .gV y):=by
  have hd:Deaf (t++MemOp.ofEvents i x.g.frame.fn x.g.frame.place es) i=S.deaf T':=by rw [Deaf_own,l6 he,oF,hdf]
  unfold On at hon
  by_cases hq:S.quit T'=true
  ·rw [aj hq] at hon;obtain ⟨q,hq'⟩:=hon;obtain ⟨hp,h0⟩:=ok.quits h.ai hlt hφ hmv hq;refine ⟨.lv q (S.deaf T'),⟨hq',hd,h0, λha=>?_⟩,by rw [aj hq];rfl, λe=>absurd e h0⟩;have :=(Ee h0).1 ha;rw [<-hpast,hp] at this;cases this
  ·rw [aa hq] at hon;obtain ⟨tr,htr⟩:=hon.rank;refine ⟨.gV ⟨T',x.own,g',w',tr⟩,⟨.inl rfl,htr,dZ.refl _,hd,oZ, λh0=>by rw [hpast];exact Ee h0,?_⟩,by rw [aa hq];rfl, λ_=>⟨_,rfl⟩⟩;show gN γ w'.heap.size i (S.Z i T') x.own;rw [hZ];exact eX.size hst.size
 have GD:∀b,γ.who (.obj b)≠ .sy->w'.heap[b]?=w.heap[b]?:= λb hb=>hst.rest b λhs=>hb ((h.syn b (.inl hs)).2 (.obj b) trivial rfl)
 refine ⟨uY,⟨λj gj hj=>?_,?_,by simpa using h.pos,?_,uH,?_,h.B.trans hst.size.symm,by simpa using zB h.nums hlt _ _ _, λb hb=>?_,h.zk,h.memo, λk hk=>by simpa using h.CP k hk, λhj=>h.jn (hsame.oI ▸ hj),h.gz.trans hsame.gz.symm,h.oI.trans hsame.oI.symm, λhfr=>?_,?_⟩,?_⟩
 ·rcases zA hj with ⟨rfl,rfl,_⟩|⟨hne,g0,hg0,rfl⟩
  ·rw [upd_same];exact CS.1
  ·rw [upd_ne hne];refine Mm hne hu (λb hb=>h.syn b (.inl hb)) hst (GA (h.one j g0 hg0) λy hy hbl=>?_);cases hw:S.wakes x.Tt with
   |true=>exact .inr ⟨hwk hw,am9⟩
   |false=>
    have UI:stops θ j=some y.Tt:=by unfold stops;rw [hy];rfl
    exact .inl (ok.stay h.ai hlt hφ hb hw (.inl hmv) j y.Tt (aI.1 hg0).1 hne UI hbl)
 ·by_cases h0:(0:Nat)=i
  ·obtain ⟨y,hy⟩:=CS.2.2 h0.symm;exact ⟨y,by rw [h0,upd_same];exact hy⟩
  ·obtain ⟨y,hy⟩:=h.main;exact ⟨y,by rw [upd_ne h0];exact hy⟩
 ·have e:stops (upd θ i uY)=upd (stops θ) i (if S.quit T' then none else some T'):=by
   funext j;unfold stops
   by_cases hj:j=i
   ·subst hj;rw [upd_same,upd_same];exact CS.2.1
   ·rw [upd_ne hj,upd_ne hj]
  rw [e];simpa using hai
 ·refine h.ti.RD h.B (λb hb=>h.syn b (.inl hb)) h.zk oZ hk he ?_ aw7 _ _
  by_cases h0:i=0
  ·exact .inl (.inl h0)
  ·cases hp:S.past x.Tt with
   |false=>exact .inl (.inr ((Ee h0).2 hp))
   |true=>
    obtain ⟨_,_,h2,h3⟩:=aw6 hp;exact .inr ⟨h2, λe=>by rw [oF];exact h3 e⟩
 ·have :=h.syn b hb;exact ⟨by rw [hst.size];exact this.1,this.2⟩
 ·obtain ⟨h2,h3⟩:=h.lk (hsame.free.1 hfr);refine ⟨ok.zz s' G w w' (hsame.J G w h2) λb hb=>GD b ?_, λb hb=>⟨by rw [hst.size];exact (h3 b hb).1,(h3 b hb).2⟩⟩;rw [(h3 b hb).2 (.obj b) trivial rfl];simp
 ·obtain ⟨h2,h3,h4⟩:=h.dn;refine ⟨ok.CO s' D Dc w w' (hsame.Dp D Dc w h2) (λb hb=>GD b ?_) (λb k hb=>?_), λb hb=>⟨by rw [hst.size];exact (h3 b hb).1,(h3 b hb).2⟩, λb k hb=>⟨by rw [hst.size];exact (h4 b k hb).1,(h4 b k hb).2⟩⟩
  ·rw [(h3 b hb).2 (.obj b) trivial rfl];simp
  ·obtain ⟨g1,g2,g3⟩:=h4 b k hb
   have :¬S.syn b:= λhs=>by
    have :=((h.syn b (.inl hs)).2 (.cell ⟨b,k,none⟩) trivial rfl).symm.trans (g3 ⟨b,k,none⟩ rfl rfl);cases this
   unfold World.cell?;simp only [hst.rest b this]
 ·funext j;unfold stops
  by_cases hj:j=i
  ·subst hj;rw [upd_same,upd_same];exact CS.2.1
  ·rw [upd_ne hj,upd_ne hj]
end
end
section
variable {O:Nat->Prop}
section
variable {T Sh ρ:Type} {P:Program} {S:Sys T Sh} {AI:Nat->(Nat->Option T)->Sh->Prop} {free:Sh->Prop} {rk:Nat->(Nat->Option T)->Sh->ρ} {lt:ρ->ρ->Prop}
theorem GG {w:World} {t:Trace} {s:Sh} {γ γ':Gh} {j:Nat} {gj:Goroutine} {CQ:TS T} (h:One P S w t s γ j gj CQ)
 (hr:∀y,CQ= .gV y->gN γ w.heap.size j (S.Z j y.Tt) y.own->gN γ' w.heap.size j (S.Z j y.Tt) y.own) (hl:γ.live j->γ'.live j) (ha:γ'.act j↔γ.act j):One P S w t s γ' j gj CQ:=by
 cases CQ with
 |lv k d=>obtain ⟨h1,h2,h3,h4⟩:=h;exact ⟨h1,h2,h3, λx=>h4 (ha.1 x)⟩
 |gV x=>
  obtain ⟨h1,h2,h3,h4,h5,h6,h7⟩:=h;exact ⟨h1,h2,h3,h4,hl h5, λh0=>ha.trans (h6 h0),hr x rfl h7⟩
theorem Ef {θ:Nat->TS T} {i:Nat} {uY:TS T} {o:Option T} (h:uY.stop?=o):stops (upd θ i uY)=upd (stops θ) i o:=by
 funext j;unfold stops
 by_cases hj:j=i
 ·subst hj;rw [upd_same,upd_same];exact h
 ·rw [upd_ne hj,upd_ne hj]
theorem MI.hand {gs:Array Goroutine} {w:World} {t:Trace} {θ:Nat->TS T} {s:Sh} {γ:Gh} {G D:Nat->Prop} {Dc:Nat->Nat->Prop} (ok:uX S AI free rk lt) (h:MI P S AI free O gs w t θ s γ G D Dc)
 {i:Nat} {x:UG T} (hi:gs[i]?=some x.g) (hx:θ i= .gV x) {T':T} {s':Sh} {g':Goroutine} {w':World} {es:Array Event} {γ':Gh} {uY:TS T} {G' D':Nat->Prop} {IW:Nat->Nat->Prop}
 (hf:S.fork x.Tt=false) (hr:S.ret x.Tt=false) (hb:¬S.blk x.Tt s) (hmv:S.mv i x.Tt s T' s') (hwk:S.wakes x.Tt=true->mayWake P x.g=true) (uH:S.Fq s' w') (hst:eT S w w')
 (hnb:g'.status≠ .blocked∧g'.status≠ .waiting)
 (hti:TI γ' (t++MemOp.ofEvents i x.g.frame.fn x.g.frame.place es)) (hB:γ'.B=γ.B)
 (CS:One P S w' (t++MemOp.ofEvents i x.g.frame.fn x.g.frame.place es) s' γ' i g' uY) (hstop:uY.stop?=if S.quit T' then none else some T') (hmain:i=0->∃y,uY= .gV y)
 (ac8:∀j y,j≠i->θ j= .gV y->j<gs.size->gN γ w.heap.size j (S.Z j y.Tt) y.own->gN γ' w.heap.size j (S.Z j y.Tt) y.own)
 (hlive:∀j,j≠i->γ.live j->γ'.live j) (hact:∀j,j≠i->(γ'.act j↔γ.act j))
 (hsy:∀l,γ.who l= .sy->γ'.who l= .sy) (ac9:∀l,¬fZ l->γ'.who l= .fr) (an0:∀l,fZ l->γ'.who l≠ .fr∧(γ'.who l= .sy->S.syn (lb l)∨O (lb l)))
 (hjn:S.oI s'=none->∀l,fZ l->¬(S.syn (lb l)∨O (lb l))->γ'.who l= .gV 0) (hla:γ'.lock=S.gz s') (hwa:γ'.wg=S.oI s')
 (hlk:free s'->S.J s' G' w'∧∀b,G' b->b<w'.heap.size∧∀l,fZ l->lb l=b->γ'.who l= .lk)
 (hdn:S.Dp s' D' IW w'∧(∀b,D' b->b<w'.heap.size∧∀l,fZ l->lb l=b->γ'.who l= .dn)∧∀b k,IW b k->b<w'.heap.size∧γ'.who (.obj b)= .pt∧∀a:Addr,a.block=b->a.off=k->γ'.who (.cell a)= .dn):
 MI P S AI free O ((gs.map (woken P x.g g' w')).setIfInBounds i g') w' (t++MemOp.ofEvents i x.g.frame.fn x.g.frame.place es) (upd θ i uY) s' γ' G' D' IW∧stops (upd θ i uY)=upd (stops θ) i (if S.quit T' then none else some T'):=by
 have hlt:=(aI.1 hi).1;have hφ:stops θ i=some x.Tt:=by unfold stops;rw [hx];rfl
 obtain ⟨hai,_⟩:=ok.move h.ai hlt hφ hf hr hb hmv;have hu:∀op∈MemOp.ofEvents i x.g.frame.fn x.g.frame.place es,op.g=i:= λop hop=>by obtain ⟨e,_,rfl⟩:=mem_ofEvents hop;rfl
 have hst':=Ef (θ:=θ) (i:=i) hstop;refine ⟨⟨λj gj hj=>?_,?_,by simpa using h.pos,by rw [hst'];simpa using hai,uH,hti,hB.trans (h.B.trans hst.size.symm),by simpa using zB h.nums hlt _ _ _, λb hb=>?_,ac9,an0, λk hk=>?_,hjn,hla,hwa,hlk,hdn⟩,hst'⟩
 ·rcases zA hj with ⟨rfl,rfl,_⟩|⟨hne,g0,hg0,rfl⟩
  ·rw [upd_same];exact CS
  ·rw [upd_ne hne];have hjlt:=(aI.1 hg0).1
   have h1:One P S w t s' γ j (woken P x.g g' w' g0) (θ j):=GA (h.one j g0 hg0) λy hy hbl=>by
    cases hw:S.wakes x.Tt with
    |true=>exact .inr ⟨hwk hw,hnb⟩
    |false=>
     have UI:stops θ j=some y.Tt:=by unfold stops;rw [hy];rfl
     exact .inl (ok.stay h.ai hlt hφ hb hw (.inl hmv) j y.Tt hjlt hne UI hbl)
   have h2:=Mm hne hu (λb hb=>h.syn b (.inl hb)) hst h1;exact GG h2 (λy hy hR=>(ac8 j y hne hy hjlt (hR.size hst.size.symm)).size hst.size) (hlive j hne) (hact j hne)
 ·by_cases h0:(0:Nat)=i
  ·obtain ⟨y,hy⟩:=hmain h0.symm;exact ⟨y,by rw [h0,upd_same];exact hy⟩
  ·obtain ⟨y,hy⟩:=h.main;exact ⟨y,by rw [upd_ne h0];exact hy⟩
 ·have :=h.syn b hb;exact ⟨by rw [hst.size];exact this.1, λl hl e=>hsy l (this.2 l hl e)⟩
 ·by_cases hki:k=i
  ·subst hki;simpa using hlt
  ·simpa using h.CP k ((hact k hki).1 hk)
theorem hd1 {i:Nat} {fn:FuncId} {pos:String} {m:Mark}:MemOp.ofEvents i fn pos #[⟨.mark m,false,true⟩]= #[{ g:=i,fn:=fn,pos:=pos,act:=.mark m }]:=by rw [ofEvents_eq];simp [MemAct.ofEvent]
theorem uZ {w':World} {t':Trace} {s':Sh} {γ':Gh} {i:Nat} {g':Goroutine} {T':T} {dK:Nat->Prop} (hq:S.quit T'=false) (hon:On P S (At P S) i T' dK g' w') (hd:Deaf t' i=S.deaf T') (hl:γ'.live i) (ha:i≠0->(γ'.act i↔S.past T'=false))
 (hR:gN γ' w'.heap.size i (S.Z i T') dK):∃uY:TS T,One P S w' t' s' γ' i g' uY∧uY.stop?=(if S.quit T' then none else some T')∧∃y,uY= .gV y:=by
 unfold On at hon;have hnq:¬S.quit T'=true:=by rw [hq];simp
 rw [aa hnq] at hon;obtain ⟨tr,htr⟩:=hon.rank;exact ⟨.gV ⟨T',dK,g',w',tr⟩,⟨.inl rfl,htr,dZ.refl _,hd,hl,ha,hR⟩,by rw [aa hnq];rfl,_,rfl⟩
theorem gN.turn {γ γ':Gh} {n j:Nat} {Z:gG} {own:Nat->Prop} (k:gN γ n j Z own) (h:∀l,γ'.who l=γ.who l∨(γ.who l≠ .gV j∧γ.who l≠ .ro∧γ.who l≠ .sy∧γ.who l≠ .pt)):gN γ' n j Z own:=by
 refine ⟨λb hb=>⟨(k.own b hb).1, λl h1 h2=>?_⟩, λb c hb=>⟨(k.cl b c hb).1,?_, λa e1 e2=>?_⟩, λb hb=>⟨(k.ro b hb).1, λl h1 h2=>?_⟩, λb hb=>⟨(k.sy b hb).1,?_⟩⟩
 ·have e:=(k.own b hb).2 l h1 h2;rcases h l with e'|⟨e',_⟩
  ·rw [e'];exact e
  ·exact absurd e e'
 ·have e:=(k.cl b c hb).2.1;rcases h (.obj b) with e'|⟨_,_,_,e'⟩
  ·rw [e'];exact e
  ·exact absurd e e'
 ·have e:=(k.cl b c hb).2.2 a e1 e2;rcases h (.cell a) with e'|⟨e',_⟩
  ·rw [e'];exact e
  ·exact absurd e e'
 ·have e:=(k.ro b hb).2 l h1 h2;rcases h l with e'|⟨_,e',_⟩
  ·rw [e'];exact e
  ·exact absurd e e'
 ·rcases h (.obj b) with e'|⟨_,_,e1,e2⟩
  ·rw [e'];exact (k.sy b hb).2
  ·rcases (k.sy b hb).2 with e|e
   ·exact absurd e e1
   ·exact absurd e e2
theorem MI.GD {gs:Array Goroutine} {w w':World} {t:Trace} {θ:Nat->TS T} {s:Sh} {γ:Gh} {G D:Nat->Prop} {Dc:Nat->Nat->Prop} (h:MI P S AI free O gs w t θ s γ G D Dc) (hst:eT S w w') {b:Nat} (hb:γ.who (.obj b)≠ .sy):w'.heap[b]?=w.heap[b]?:=
 hst.rest b λhs=>hb ((h.syn b (.inl hs)).2 (.obj b) trivial rfl)
theorem MI.Ku {gs:Array Goroutine} {w w':World} {t:Trace} {θ:Nat->TS T} {s s':Sh} {γ γ':Gh} {G D:Nat->Prop} {Dc:Nat->Nat->Prop} (ok:uX S AI free rk lt) (h:MI P S AI free O gs w t θ s γ G D Dc) (hst:eT S w w')
 (hw:∀l,γ'.who l=γ.who l∨(γ.who l≠ .dn∧γ.who l≠ .pt)) (hD:∀D Dc w,S.Dp s D Dc w->S.Dp s' D Dc w):
 S.Dp s' D Dc w'∧(∀b,D b->b<w'.heap.size∧∀l,fZ l->lb l=b->γ'.who l= .dn)∧∀b k,Dc b k->b<w'.heap.size∧γ'.who (.obj b)= .pt∧∀a:Addr,a.block=b->a.off=k->γ'.who (.cell a)= .dn:=by
 obtain ⟨d1,d2,d3⟩:=h.dn;refine ⟨hD D Dc w' (ok.CO s D Dc w w' d1 (λb hb=>h.GD hst (by rw [(d2 b hb).2 (.obj b) trivial rfl];simp)) (λb k hb=>?_)), λb hb=>⟨by rw [hst.size];exact (d2 b hb).1, λl h1 h2=>?_⟩, λb k hb=>⟨by rw [hst.size];exact (d3 b k hb).1,?_, λa e1 e2=>?_⟩⟩
 ·have :=h.GD hst (b:=b) (by rw [(d3 b k hb).2.1];simp);unfold World.cell?;simp only [this]
 ·have e:=(d2 b hb).2 l h1 h2;rcases hw l with e'|⟨e',_⟩
  ·rw [e'];exact e
  ·exact absurd e e'
 ·have e:=(d3 b k hb).2.1;rcases hw (.obj b) with e'|⟨_,e'⟩
  ·rw [e'];exact e
  ·exact absurd e e'
 ·have e:=(d3 b k hb).2.2 a e1 e2;rcases hw (.cell a) with e'|⟨e',_⟩
  ·rw [e'];exact e
  ·exact absurd e e'
theorem MI.XZ {gs:Array Goroutine} {w:World} {t:Trace} {θ:Nat->TS T} {s:Sh} {γ:Gh} {G D:Nat->Prop} {Dc:Nat->Nat->Prop} (ok:uX S AI free rk lt) (h:MI P S AI free O gs w t θ s γ G D Dc)
 {i:Nat} {x:UG T} (hi:gs[i]?=some x.g) (hx:θ i= .gV x) {T':T} {s':Sh} {g':Goroutine} {w':World} {es:Array Event}
 (hf:S.fork x.Tt=false) (hr:S.ret x.Tt=false) (hb:¬S.blk x.Tt s) (hmv:S.mv i x.Tt s T' s') (hwk:S.wakes x.Tt=true->mayWake P x.g=true) (uH:S.Fq s' w') (hst:eT S w w') (he:TL S s (S.kind x.Tt) es) (hk:S.kind x.Tt= .uV)
 (hon:∀G,(∀b,G b->¬x.own b)->S.J s G w'->On P S (At P S) i T' (λb=>x.own b∨G b) g' w'):
 ∃uY γ' G',MI P S AI free O ((gs.map (woken P x.g g' w')).setIfInBounds i g') w' (t++MemOp.ofEvents i x.g.frame.fn x.g.frame.place es) (upd θ i uY) s' γ' G' D Dc∧stops (upd θ i uY)=upd (stops θ) i (if S.quit T' then none else some T'):=by
 classical
 have h1:=h.one i x.g hi;rw [hx] at h1;obtain ⟨_,P9,Gy,oF,oZ,Ee,eX⟩:=h1;have hlt:=(aI.1 hi).1;have hφ:stops θ i=some x.Tt:=by unfold stops;rw [hx];rfl
 obtain ⟨o1,o2,o3,o4,o5,o6,o7,o8,o9,UJ⟩:=ok.uV h.ai hlt hφ hmv hk;have hdf:=ok.jO h.ai hlt hφ hmv;rw [hk] at hdf he;obtain ⟨a,ha,rfl⟩:∃a,S.gz s=some a∧es= #[⟨.mark (.acquire a),false,true⟩]:=he;obtain ⟨hJ,hG⟩:=h.lk o1
 have hJ':=ok.zz s G w w' hJ λb hb=>hst.rest b λhs=>by
  have :=((h.syn b (.inl hs)).2 (.obj b) trivial rfl).symm.trans ((hG b hb).2 (.obj b) trivial rfl);cases this
 have hGo:∀b,G b->¬x.own b:= λb hb ho=>by
  have :=(eX.oJ ho).symm.trans ((hG b hb).2 (.obj b) trivial rfl);cases this
 have hon:=hon G hGo hJ';obtain ⟨eF,kr⟩:∃eF:Loc->Who,eF= λl=>if fZ l∧G (lb l) then .gV i else γ.who l:=⟨_,rfl⟩
 have wN:∀l,fZ l->G (lb l)->eF l= .gV i:= λl h1 h2=>by rw [kr];exact aj ⟨h1,h2⟩
 have oK:∀l,¬(fZ l∧G (lb l))->eF l=γ.who l:= λl h1=>by rw [kr];exact aa h1
 have wlk:∀l,fZ l->G (lb l)->γ.who l= .lk:= λl h1 h2=>(hG _ h2).2 l h1 rfl
 have nC:∀l,γ.who l≠ .lk->eF l=γ.who l:= λl hl=>oK l λ⟨h1,h2⟩=>hl (wlk l h1 h2)
 have keepR:∀j Z own,gN γ w.heap.size j Z own->gN { γ with who:=eF } w.heap.size j Z own:= λj Z own k=>k.turn λl=>by
  by_cases hl:γ.who l= .lk
  ·exact .inr (by rw [hl];simp)
  ·exact .inl (nC l hl)
 have hti:=h.ti.acquire (z:={ g:=i,fn:=x.g.frame.fn,pos:=x.g.frame.place,act:=.mark (.acquire a) }) (a:=a) (by rw [h.gz,ha]) rfl (by rw [oF,o6]) oZ (eF:=eF) (λl=>by
  by_cases hl:fZ l∧G (lb l)
  ·exact .inr ⟨wlk l hl.1 hl.2,wN l hl.1 hl.2⟩
  ·exact .inl (oK l hl))
 have hRi:gN { γ with who:=eF } w'.heap.size i (S.Z i T') (λb=>x.own b∨G b):=by
  have :=keepR i _ _ eX;rw [o8,hst.size];refine ⟨λb hb=>?_,this.cl,this.ro,this.sy⟩;rcases hb with hb|hb
  ·exact this.own b hb
  ·exact ⟨(hG b hb).1, λl h1 h2=>wN l h1 (by rw [h2];exact hb)⟩
 have hdd:Deaf (t++MemOp.ofEvents i x.g.frame.fn x.g.frame.place #[⟨.mark (.acquire a),false,true⟩]) i=S.deaf T':=by
  rw [Deaf_own,oF,hdf,l6 (S:=S) (s:=s) (k:=.uV) ⟨a,ha,rfl⟩]
 obtain ⟨uY,CS,hstop,Ot⟩:=uZ (s':=s') UJ hon hdd (γ':={ γ with who:=eF }) oZ (λh0=>by rw [o9];exact Ee h0) hRi
 refine ⟨uY,{ γ with who:=eF }, λ_=>False,MI.hand ok h hi hx hf hr hb hmv hwk uH hst (xy (λ_ _ _ _ _=>lQ) hon) (by rw [hd1];exact hti) rfl CS hstop (λ_=>Ot)
  (λj y _ _ _ k=>keepR j _ _ k) (λ_ _ h=>h) (λ_ _=>Iff.rfl) (λl hl=>?_) (λl hl=>?_) (λl hl=>?_) (λhn=>?_) (by rw [o3];exact h.gz) (by rw [o4];exact h.oI) (λhf'=>absurd hf' o2) ?_⟩
 ·show eF l=_;rw [nC l (by rw [hl];simp)];exact hl
 ·show eF l=_;rw [oK l λhm=>hl hm.1];exact h.zk l hl
 ·show eF l≠_∧(eF l=_->_)
  by_cases hg:G (lb l)
  ·rw [wN l hl hg];exact ⟨by simp,by simp⟩
  ·rw [oK l λhm=>hg hm.2];exact h.memo l hl
 ·rw [o4] at hn;exact absurd hn o5
 ·refine h.Ku ok hst (λl=>?_) o7
  by_cases hl:γ.who l= .lk
  ·exact .inr (by rw [hl];simp)
  ·exact .inl (nC l hl)
theorem MI.X0 {gs:Array Goroutine} {w:World} {t:Trace} {θ:Nat->TS T} {s:Sh} {γ:Gh} {G D:Nat->Prop} {Dc:Nat->Nat->Prop} (ok:uX S AI free rk lt) (h:MI P S AI free O gs w t θ s γ G D Dc)
 {i:Nat} {x:UG T} (hi:gs[i]?=some x.g) (hx:θ i= .gV x) {T':T} {s':Sh} {g':Goroutine} {w':World} {es:Array Event}
 (hf:S.fork x.Tt=false) (hr:S.ret x.Tt=false) (hb:¬S.blk x.Tt s) (hmv:S.mv i x.Tt s T' s') (hwk:S.wakes x.Tt=true->mayWake P x.g=true) (uH:S.Fq s' w') (hst:eT S w w') (he:TL S s (S.kind x.Tt) es) (hk:S.kind x.Tt= .uW)
 (hon:∃G,(∀b,G b->x.own b)∧S.J s' G w'∧On P S (At P S) i T' (λb=>x.own b∧¬G b) g' w'):
 ∃uY γ' G',MI P S AI free O ((gs.map (woken P x.g g' w')).setIfInBounds i g') w' (t++MemOp.ofEvents i x.g.frame.fn x.g.frame.place es) (upd θ i uY) s' γ' G' D Dc∧stops (upd θ i uY)=upd (stops θ) i (if S.quit T' then none else some T'):=by
 classical
 have h1:=h.one i x.g hi;rw [hx] at h1;obtain ⟨_,P9,Gy,oF,oZ,Ee,eX⟩:=h1;have hlt:=(aI.1 hi).1;have hφ:stops θ i=some x.Tt:=by unfold stops;rw [hx];rfl
 obtain ⟨o1,o3,o4,o5,o6,o7,o8,o9,UJ⟩:=ok.uW h.ai hlt hφ hmv hk;have hdf:=ok.jO h.ai hlt hφ hmv;rw [hk] at hdf he;obtain ⟨a,ha,rfl⟩:∃a,S.gz s=some a∧es= #[⟨.mark (.releaseMerge a),false,true⟩]:=he;obtain ⟨G',hG,hJ,hon⟩:=hon;obtain ⟨eF,kr⟩:∃eF:Loc->Who,eF= λl=>if fZ l∧G' (lb l) then .lk else γ.who l:=⟨_,rfl⟩
 have wN:∀l,fZ l->G' (lb l)->eF l= .lk:= λl h1 h2=>by rw [kr];exact aj ⟨h1,h2⟩
 have oK:∀l,¬(fZ l∧G' (lb l))->eF l=γ.who l:= λl h1=>by rw [kr];exact aa h1
 have ZR:∀l,fZ l->G' (lb l)->γ.who l= .gV i:= λl h1 h2=>(eX.own _ (hG _ h2)).2 l h1 rfl
 have nC:∀l,γ.who l≠ .gV i->eF l=γ.who l:= λl hl=>oK l λ⟨h1,h2⟩=>hl (ZR l h1 h2)
 have hti:=h.ti.release (y:={ g:=i,fn:=x.g.frame.fn,pos:=x.g.frame.place,act:=.mark (.releaseMerge a) }) (a:=a) (by rw [h.gz,ha]) rfl (by rw [oF,o6]) (eF:=eF) (λl=>by
  by_cases hl:fZ l∧G' (lb l)
  ·exact .inr ⟨ZR l hl.1 hl.2,wN l hl.1 hl.2⟩
  ·exact .inl (oK l hl))
 have hRi:gN { γ with who:=eF } w'.heap.size i (S.Z i T') (λb=>x.own b∧¬G' b):=by
  rw [o8,hst.size];refine ⟨λb hb=>⟨(eX.own b hb.1).1, λl h1 h2=>?_⟩, λb c hb=>⟨(eX.cl b c hb).1,?_, λa e1 e2=>?_⟩, λb hb=>⟨(eX.ro b hb).1, λl h1 h2=>?_⟩, λb hb=>⟨(eX.sy b hb).1,?_⟩⟩
  ·show eF l=_;rw [oK l λhm=>hb.2 (by rw [<-h2];exact hm.2)];exact (eX.own b hb.1).2 l h1 h2
  ·show eF _=_;rw [nC _ (by rw [(eX.cl b c hb).2.1];simp)];exact (eX.cl b c hb).2.1
  ·show eF _=_;have e:=(eX.cl b c hb).2.2 a e1 e2;rw [oK _ λhm=>?_]
   ·exact e
   ·have h3:G' b:=by rw [<-e1];exact hm.2
    have :=(eX.cl b c hb).2.1.symm.trans (eX.oJ (hG b h3));cases this
  ·show eF l=_;rw [nC l (by rw [(eX.ro b hb).2 l h1 h2];simp)];exact (eX.ro b hb).2 l h1 h2
  ·show eF _=_∨eF _=_;rcases (eX.sy b hb).2 with e|e<;>rw [nC _ (by rw [e];simp)]
   ·exact .inl e
   ·exact .inr e
 have hdd:Deaf (t++MemOp.ofEvents i x.g.frame.fn x.g.frame.place #[⟨.mark (.releaseMerge a),false,true⟩]) i=S.deaf T':=by
  rw [Deaf_own,oF,hdf,l6 (S:=S) (s:=s) (k:=.uW) ⟨a,ha,rfl⟩]
 obtain ⟨uY,CS,hstop,Ot⟩:=uZ (s':=s') UJ hon hdd (γ':={ γ with who:=eF }) oZ (λh0=>by rw [o9];exact Ee h0) hRi
 refine ⟨uY,{ γ with who:=eF },G',MI.hand ok h hi hx hf hr hb hmv hwk uH hst (xy (λ_ _ _ _ _=>lQ) hon) (by rw [hd1];exact hti) rfl CS hstop (λ_=>Ot)
  (λj y hne _ _ k=>k.turn λl=>?_) (λ_ _ h=>h) (λ_ _=>Iff.rfl) (λl hl=>?_) (λl hl=>?_) (λl hl=>?_) (λhn=>?_) (by rw [o3];exact h.gz) (by rw [o4];exact h.oI) (λ_=>⟨hJ, λb hb=>⟨?_, λl h1 h2=>wN l h1 (by rw [h2];exact hb)⟩⟩) ?_⟩
 ·by_cases hl:γ.who l= .gV i
  ·refine .inr ?_
   rw [hl];exact ⟨λe=>hne (Who.gV.inj e).symm,by simp,by simp,by simp⟩
  ·exact .inl (nC l hl)
 ·show eF l=_;rw [nC l (by rw [hl];simp)];exact hl
 ·show eF l=_;rw [oK l λhm=>hl hm.1];exact h.zk l hl
 ·show eF l≠_∧(eF l=_->_)
  by_cases hg:G' (lb l)
  ·rw [wN l hl hg];exact ⟨by simp,by simp⟩
  ·rw [oK l λhm=>hg hm.2];exact h.memo l hl
 ·rw [o4] at hn;exact absurd hn o5
 ·rw [hst.size];exact (eX.own b (hG b hb)).1
 ·refine h.Ku ok hst (λl=>?_) o7
  by_cases hl:γ.who l= .gV i
  ·exact .inr (by rw [hl];simp)
  ·exact .inl (nC l hl)
end
end
section
variable {O:Nat->Prop}
section
variable {T Sh ρ:Type} {P:Program} {S:Sys T Sh} {AI:Nat->(Nat->Option T)->Sh->Prop} {free:Sh->Prop} {rk:Nat->(Nat->Option T)->Sh->ρ} {lt:ρ->ρ->Prop}
theorem MI.UK {gs:Array Goroutine} {w:World} {t:Trace} {θ:Nat->TS T} {s:Sh} {γ:Gh} {G D:Nat->Prop} {Dc:Nat->Nat->Prop} (ok:uX S AI free rk lt) (h:MI P S AI free O gs w t θ s γ G D Dc)
 {i:Nat} {x:UG T} (hi:gs[i]?=some x.g) (hx:θ i= .gV x) {T':T} {s':Sh} {g':Goroutine} {w':World} {es:Array Event}
 (hf:S.fork x.Tt=false) (hr:S.ret x.Tt=false) (hb:¬S.blk x.Tt s) (hmv:S.mv i x.Tt s T' s') (hwk:S.wakes x.Tt=true->mayWake P x.g=true) (uH:S.Fq s' w') (hst:eT S w w') (he:TL S s (S.kind x.Tt) es) (hk:S.kind x.Tt= .done)
 (hdp:∀D Dc,S.Dp s D Dc w'->S.Dp s' (λb=>D b∨x.own b) (λb k=>Dc b k∨(S.Z i x.Tt).cl b k) w') (hon:On P S (At P S) i T' (λ_=>False) g' w'):
 ∃uY γ' D' IW,MI P S AI free O ((gs.map (woken P x.g g' w')).setIfInBounds i g') w' (t++MemOp.ofEvents i x.g.frame.fn x.g.frame.place es) (upd θ i uY) s' γ' G D' IW∧stops (upd θ i uY)=upd (stops θ) i (if S.quit T' then none else some T'):=by
 classical
 have h1:=h.one i x.g hi;rw [hx] at h1;obtain ⟨_,P9,Gy,oF,oZ,Ee,eX⟩:=h1;have hlt:=(aI.1 hi).1;have hφ:stops θ i=some x.Tt:=by unfold stops;rw [hx];rfl
 obtain ⟨o1,o2,o3,o4,o5,o6,o7,o8,o9,UJ,ZT,o12,o13⟩:=ok.done h.ai hlt hφ hmv hk;have hdf:=ok.jO h.ai hlt hφ hmv;rw [hk] at hdf he;obtain ⟨a,ha,rfl⟩:∃a,S.oI s=some a∧es= #[⟨.mark (.releaseMerge a),false,true⟩]:=he;obtain ⟨eF,kr⟩:∃eF:Loc->Who,eF= λl=>if γ.who l= .gV i then .dn else γ.who l:=⟨_,rfl⟩
 have wN:∀l,γ.who l= .gV i->eF l= .dn:= λl h1=>by rw [kr];exact aj h1
 have oK:∀l,γ.who l≠ .gV i->eF l=γ.who l:= λl h1=>by rw [kr];exact aa h1
 have hti:=h.ti.done (y:={ g:=i,fn:=x.g.frame.fn,pos:=x.g.frame.place,act:=.mark (.releaseMerge a) }) (a:=a) (by rw [h.oI,ha]) rfl (by rw [oF,o4]) (eF:=eF) (λl=>by
  by_cases hl:γ.who l= .gV i
  ·rw [wN l hl];exact ⟨by simp,.inr ⟨hl,rfl⟩⟩
  ·rw [oK l hl];exact ⟨hl,.inl rfl⟩)
 have hRi:gN { γ with who:=eF,act:= λg=>γ.act g∧g≠i } w'.heap.size i (S.Z i T') (λ_=>False):=by
  rw [hst.size];refine ⟨λb hb=>hb.elim, λb c hb=>absurd hb (o12 b c), λb hb=>⟨(eX.ro b (UJ b hb)).1, λl h1 h2=>?_⟩, λb hb=>⟨(eX.sy b (ZT b hb)).1,?_⟩⟩
  ·show eF l=_;have e:=(eX.ro b (UJ b hb)).2 l h1 h2;rw [oK l (by rw [e];simp)];exact e
  ·show eF _=_∨eF _=_;rcases (eX.sy b (ZT b hb)).2 with e|e<;>rw [oK _ (by rw [e];simp)]
   ·exact .inl e
   ·exact .inr e
 have hdd:Deaf (t++MemOp.ofEvents i x.g.frame.fn x.g.frame.place #[⟨.mark (.releaseMerge a),false,true⟩]) i=S.deaf T':=by
  rw [Deaf_own,oF,hdf,l6 (S:=S) (s:=s) (k:=.done) ⟨a,ha,rfl⟩]
 obtain ⟨uY,CS,hstop,Ot⟩:=uZ (s':=s') o13 hon hdd (γ':={ γ with who:=eF,act:= λg=>γ.act g∧g≠i }) oZ (λ_=>⟨λx=>absurd rfl x.2, λx=>by rw [o3] at x;cases x⟩) hRi
 refine ⟨uY,{ γ with who:=eF,act:= λg=>γ.act g∧g≠i },_,_,MI.hand ok h hi hx hf hr hb hmv hwk uH hst (xy (λ_ _ _ _ _=>lQ) hon) (by rw [hd1];exact hti) rfl CS hstop (λ_=>Ot)
  (λj y hne _ _ k=>k.turn λl=>?_) (λ_ _ h=>h) (λj hj=>⟨λx=>x.1, λx=>⟨x,hj⟩⟩) (λl hl=>?_) (λl hl=>?_) (λl hl=>?_) (λhn=>?_) (by rw [o5];exact h.gz) (by rw [o6];exact h.oI) (λhf'=>?_) ⟨hdp D Dc (h.Ku ok hst (γ':=γ) (λ_=>.inl rfl) λ_ _ _ x=>x).1, λb hb=>?_, λb k hb=>?_⟩⟩
 ·by_cases hl:γ.who l= .gV i
  ·refine .inr ?_
   rw [hl];exact ⟨λe=>hne (Who.gV.inj e).symm,by simp,by simp,by simp⟩
  ·exact .inl (oK l hl)
 ·show eF l=_;rw [oK l (by rw [hl];simp)];exact hl
 ·show eF l=_;have e:=h.zk l hl;rw [oK l (by rw [e];simp)];exact e
 ·show eF l≠_∧(eF l=_->_)
  by_cases hg:γ.who l= .gV i
  ·rw [wN l hg];exact ⟨by simp,by simp⟩
  ·rw [oK l hg];exact h.memo l hl
 ·rw [o6] at hn;exact absurd hn o7
 ·obtain ⟨h2,h3⟩:=h.lk (o8.1 hf');refine ⟨o9 G w' (ok.zz s G w w' h2 λb hb=>h.GD hst (by rw [(h3 b hb).2 (.obj b) trivial rfl];simp)), λb hb=>⟨by rw [hst.size];exact (h3 b hb).1, λl h1 h2=>?_⟩⟩;show eF l=_;have e:=(h3 b hb).2 l h1 h2;rw [oK l (by rw [e];simp)];exact e
 ·obtain ⟨_,d2,_⟩:=h.dn;rcases hb with hb|hb
  ·refine ⟨by rw [hst.size];exact (d2 b hb).1, λl h1 h2=>?_⟩;show eF l=_;have e:=(d2 b hb).2 l h1 h2;rw [oK l (by rw [e];simp)];exact e
  ·exact ⟨by rw [hst.size];exact (eX.own b hb).1, λl h1 h2=>wN l ((eX.own b hb).2 l h1 h2)⟩
 ·obtain ⟨_,_,d3⟩:=h.dn;rcases hb with hb|hb
  ·refine ⟨by rw [hst.size];exact (d3 b k hb).1,?_, λa e1 e2=>?_⟩
   ·show eF _=_;have e:=(d3 b k hb).2.1;rw [oK _ (by rw [e];simp)];exact e
   ·show eF _=_;have e:=(d3 b k hb).2.2 a e1 e2;rw [oK _ (by rw [e];simp)];exact e
  ·obtain ⟨c1,c2,c3⟩:=eX.cl b k hb;refine ⟨by rw [hst.size];exact (eX.sy b c1).1,?_, λa e1 e2=>wN _ (c3 a e1 e2)⟩;show eF _=_;rw [oK _ (by rw [c2];simp)];exact c2
theorem MI.UL {gs:Array Goroutine} {w:World} {t:Trace} {θ:Nat->TS T} {s:Sh} {γ:Gh} {G D:Nat->Prop} {Dc:Nat->Nat->Prop} (ok:uX S AI free rk lt) (h:MI P S AI free O gs w t θ s γ G D Dc)
 {i:Nat} {x:UG T} (hi:gs[i]?=some x.g) (hx:θ i= .gV x) {T':T} {s':Sh} {g':Goroutine} {w':World} {es:Array Event}
 (hf:S.fork x.Tt=false) (hr:S.ret x.Tt=false) (hb:¬S.blk x.Tt s) (hmv:S.mv i x.Tt s T' s') (hwk:S.wakes x.Tt=true->mayWake P x.g=true) (uH:S.Fq s' w') (hst:eT S w w') (he:TL S s (S.kind x.Tt) es) (hk:S.kind x.Tt= .join)
 (hon:∀G D Dc dK,S.J s G w'->S.Dp s D Dc w'->(∀b,dK b->b<w'.heap.size∧¬S.syn b)->(∀b,x.own b->dK b)->(∀b,G b->dK b)->(∀b,D b->dK b)->On P S (At P S) i T' dK g' w'):
 ∃uY γ' G' D' IW,MI P S AI free O ((gs.map (woken P x.g g' w')).setIfInBounds i g') w' (t++MemOp.ofEvents i x.g.frame.fn x.g.frame.place es) (upd θ i uY) s' γ' G' D' IW∧stops (upd θ i uY)=upd (stops θ) i (if S.quit T' then none else some T'):=by
 classical
 have h1:=h.one i x.g hi;rw [hx] at h1;obtain ⟨_,P9,Gy,oF,oZ,Ee,eX⟩:=h1;have hlt:=(aI.1 hi).1;have hφ:stops θ i=some x.Tt:=by unfold stops;rw [hx];rfl
 obtain ⟨o1,o2,o3,o4,o5,o6,o7,o8,o9,UJ,ZT,o12⟩:=ok.join h.ai hlt hφ hmv hk;have hdf:=ok.jO h.ai hlt hφ hmv;rw [hk] at hdf he;subst o1;obtain ⟨a,ha,rfl⟩:∃a,S.oI s=some a∧es= #[⟨.mark (.acquire a),false,true⟩]:=he
 have ZU:∀j y,j<gs.size->j≠0->θ j≠ .gV y:= λj y h1 h2 e=>by
  have :=o4 j h1 h2;unfold stops at this;rw [e] at this;cases this
 obtain ⟨eF,kr⟩:∃eF:Loc->Who,eF= λl=>if γ.who l= .sy then .sy else if γ.who l= .fr then .fr else .gV 0:=⟨_,rfl⟩
 have X7:∀l,γ.who l= .sy->eF l= .sy:= λl h1=>by rw [kr];exact aj h1
 have wfr:∀l,γ.who l= .fr->eF l= .fr:= λl h1=>by rw [kr];simp [h1]
 have wN:∀l,γ.who l≠ .sy->γ.who l≠ .fr->eF l= .gV 0:= λl h1 h2=>by rw [kr];simp [h1,h2]
 have an1:∀l,fZ l->¬(S.syn (lb l)∨O (lb l))->eF l= .gV 0:= λl hl hn=>wN l (λe=>hn ((h.memo l hl).2 e)) (h.memo l hl).1
 have hno:∀g,g≠0->¬γ.act g:= λg hg ha=>by
  have hlt':=h.CP g ha;have :=h.one g gs[g] (by simp [hlt']);cases yl:θ g with
  |gV y=>exact ZU g y hlt' hg yl
  |lv k d=>rw [yl] at this;exact this.2.2.2 ha
 have hti:=(h.ti.join (z:={ g:=0,fn:=x.g.frame.fn,pos:=x.g.frame.place,act:=.mark (.acquire a) }) (a:=a) (by rw [h.oI,ha]) rfl rfl (by rw [oF,o3]) hno (eF:=eF) (λl=>by
  by_cases h1:γ.who l= .sy
  ·exact .inl ⟨by rw [X7 l h1,h1],.inl h1⟩
  ·by_cases h2:γ.who l= .fr
   ·exact .inl ⟨by rw [wfr l h2,h2],.inr h2⟩
   ·exact .inr ⟨h1,wN l h1 h2⟩)).1
 obtain ⟨hJ,hG⟩:=h.lk o2;have hon:=hon G D Dc (λb=>b<w'.heap.size∧¬(S.syn b∨O b)) (ok.zz s G w w' hJ λb hb=>h.GD hst (by rw [(hG b hb).2 (.obj b) trivial rfl];simp)) (h.Ku ok hst (γ':=γ) (λ_=>.inl rfl) λ_ _ _ x=>x).1 (λb hb=>⟨hb.1, λhs=>hb.2 (.inl hs)⟩) (λb hb=>⟨by rw [hst.size];exact (eX.own b hb).1, λhs=>by have :=((h.syn b hs).2 (.obj b) trivial rfl).symm.trans (eX.oJ hb);cases this⟩) (λb hb=>⟨by rw [hst.size];exact (hG b hb).1, λhs=>by have :=((h.syn b hs).2 (.obj b) trivial rfl).symm.trans ((hG b hb).2 (.obj b) trivial rfl);cases this⟩) (λb hb=>⟨by rw [hst.size];exact (h.dn.2.1 b hb).1, λhs=>by have :=((h.syn b hs).2 (.obj b) trivial rfl).symm.trans ((h.dn.2.1 b hb).2 (.obj b) trivial rfl);cases this⟩)
 have hRi:gN { γ with who:=eF,wg:=none,lock:=none } w'.heap.size 0 (S.Z 0 T') (λb=>b<w'.heap.size∧¬(S.syn b∨O b)):=
  ⟨λb hb=>⟨hb.1, λl h1 h2=>an1 l h1 (by rw [h2];exact hb.2)⟩, λb c hb=>absurd hb (ZT b c), λb hb=>absurd hb (o9 b), λb hb=>absurd hb (UJ b)⟩
 have hdd:Deaf (t++MemOp.ofEvents 0 x.g.frame.fn x.g.frame.place #[⟨.mark (.acquire a),false,true⟩]) 0=S.deaf T':=by
  rw [Deaf_own,oF,hdf,l6 (S:=S) (s:=s) (k:=.join) ⟨a,ha,rfl⟩]
 obtain ⟨uY,CS,hstop,Ot⟩:=uZ (s':=s') o12 hon hdd (γ':={ γ with who:=eF,wg:=none,lock:=none }) oZ (λh0=>absurd rfl h0) hRi
 refine ⟨uY,{ γ with who:=eF,wg:=none,lock:=none }, λ_=>False, λ_=>False, λ_ _=>False,MI.hand ok h hi hx hf hr hb hmv hwk uH hst (xy (λ_ _ _ _ _=>lQ) hon) (by rw [hd1];exact hti) rfl CS hstop (λ_=>Ot)
  (λj y hne hy hj k=>absurd hy (ZU j y hj hne)) (λ_ _ h=>h) (λ_ _=>Iff.rfl) (λl hl=>X7 l hl) (λl hl=>wfr l (h.zk l hl)) (λl hl=>?_) (λ_ l hl hn=>an1 l hl hn) o5.symm o6.symm (λhf'=>absurd hf' o7) ⟨o8 w', λb hb=>hb.elim, λb k hb=>hb.elim⟩⟩
 show eF l≠_∧(eF l=_->_)
 by_cases hs:γ.who l= .sy
 ·rw [X7 l hs];exact ⟨by simp, λ_=>(h.memo l hl).2 hs⟩
 ·rw [wN l hs (h.memo l hl).1];exact ⟨by simp,by simp⟩
theorem Kv {t:Trace} {x y:MemOp} {k:Nat} (hx:x.act= .go k) (hy:y.act= .start) (g:Nat):Deaf (t++ #[x,y]) g=Deaf t g:=by
 have e:t++ #[x,y]=t++ [x,y].toArray:=rfl;rw [e,Deaf_append];simp only [List.foldl_cons,List.foldl_nil];unfold deafStep;rw [hx,hy]
theorem ad1 {w:World} {t:Trace} {s:Sh} {γ:Gh} {j:Nat} {gj:Goroutine} {CQ:TS T} {x y:MemOp} {k:Nat} (hx:x.act= .go k) (hy:y.act= .start) (h:One P S w t s γ j gj CQ):One P S w (t++ #[x,y]) s γ j gj CQ:=by
 cases CQ with
 |lv k d=>
  obtain ⟨h1,h2,h3,h4⟩:=h;exact ⟨h1,by rw [Kv hx hy];exact h2,h3,h4⟩
 |gV z=>
  obtain ⟨h1,h2,h3,h4,h5,h6,h7⟩:=h;exact ⟨h1,h2,h3,by rw [Kv hx hy];exact h4,h5,h6,h7⟩
theorem MI.RG {gs:Array Goroutine} {w:World} {t:Trace} {θ:Nat->TS T} {s:Sh} {γ:Gh} {G D:Nat->Prop} {Dc:Nat->Nat->Prop} (ok:uX S AI free rk lt) (h:MI P S AI free O gs w t θ s γ G D Dc)
 {x:UG T} (hi:gs[0]?=some x.g) (hx:θ 0= .gV x) {T' Tc:T} {s':Sh} {g' child:Goroutine} {dK sO:Nat->Prop}
 (hf:S.fork x.Tt=true) (hsp:S.sp x.Tt s T' Tc s') (uH:S.Fq s' w) (hown:∀b,x.own b↔dK b∨sO b) (zC:∀b,dK b->¬sO b)
 (hon:On P S (At P S) 0 T' dK g' w) (ad2:∀k,k≠0->On P S (At P S) k Tc sO child w) (fn1 fn2:FuncId) (pos1 pos2:String):
 ∃XC θc γ',MI P S AI free O ((gs.setIfInBounds 0 g').push child) w (t++ #[{ g:=0,fn:=fn1,pos:=pos1,act:=.go gs.size },{ g:=gs.size,fn:=fn2,pos:=pos2,act:=.start }]) (upd (upd θ 0 XC) gs.size θc) s' γ' G D Dc∧
  stops (upd (upd θ 0 XC) gs.size θc)=upd (upd (stops θ) 0 (some T')) gs.size (some Tc):=by
 classical
 have h1:=h.one 0 x.g hi;rw [hx] at h1;obtain ⟨_,P9,Gy,oF,oZ,Ee,eX⟩:=h1;have hlt:=(aI.1 hi).1;have hφ:stops θ 0=some x.Tt:=by unfold stops;rw [hx];rfl
 obtain ⟨hsame,o2,o3,o4,o5,o6,o7,o8,o9,UJ,ZT,o12,o13,o14⟩:=ok.Oo h.ai hφ hf hsp;obtain ⟨hai,_⟩:=ok.spawn h.ai hφ hf hsp;have hn0:gs.size≠0:=by omega
 obtain ⟨n,hn⟩:∃n,n=gs.size:=⟨_,rfl⟩;rw [<-hn] at ZT o12 o14 hai hn0 ⊢;have ad2:=ad2 n hn0;obtain ⟨C,hC⟩:∃C:Loc->Prop,C= λl=>(fZ l∧sO (lb l))∨∃a:Addr,l= .cell a∧(S.Z n Tc).cl a.block a.off:=⟨_,rfl⟩
 have cth:∀l,C l->γ.who l= .gV 0:=by
  intro l hl;rw [hC] at hl;rcases hl with ⟨h1,h2⟩|⟨a,rfl,h2⟩
  ·exact (eX.own _ ((hown _).2 (.inr h2))).2 l h1 rfl
  ·exact (eX.cl _ _ (o14 _ _ h2).2.1).2.2 a rfl rfl
 obtain ⟨eF,kr⟩:∃eF:Loc->Who,eF= λl=>if C l then .gV n else γ.who l:=⟨_,rfl⟩
 have wN:∀l,C l->eF l= .gV n:= λl h1=>by rw [kr];exact aj h1
 have oK:∀l,¬C l->eF l=γ.who l:= λl h1=>by rw [kr];exact aa h1
 have nC:∀l,γ.who l≠ .gV 0->eF l=γ.who l:= λl hl=>oK l λhc=>hl (cth l hc)
 obtain ⟨γ',hγ⟩:∃γ':Gh,γ'= { γ with who:=eF,live:= λg=>γ.live g∨g=n,act:= λg=>γ.act g∨g=n }:=⟨_,rfl⟩;have pI:γ'.who=eF:=by rw [hγ]
 have RH:Deaf t n=0:=Deaf_absent λi op hop=>Nat.ne_of_lt (by rw [hn];exact h.nums op (bn hop))
 have hti:TI γ' (t++ #[{ g:=0,fn:=fn1,pos:=pos1,act:=.go n },{ g:=n,fn:=fn2,pos:=pos2,act:=.start }]):=by
  rw [hγ]
  exact h.ti.fork (k:=n) (x:={ g:=0,fn:=fn1,pos:=pos1,act:=.go n }) (y:={ g:=n,fn:=fn2,pos:=pos2,act:=.start }) ⟨rfl,rfl⟩ ⟨rfl,rfl⟩ (by rw [oF,o3]) RH oZ (eF:=eF) λl=>by
   by_cases hl:C l
   ·exact .inr ⟨cth l hl,wN l hl⟩
   ·exact .inl (oK l hl)
 have hdd:∀g,Deaf (t++ #[{ g:=0,fn:=fn1,pos:=pos1,act:=.go n },{ g:=n,fn:=fn2,pos:=pos2,act:=.start }]) g=Deaf t g:= λg=>Kv rfl rfl g
 have other:∀{j Z own},j≠0->gN γ w.heap.size j Z own->gN γ' w.heap.size j Z own:= λhj k=>k.turn λl=>by
  rw [pI]
  by_cases hl:C l
  ·refine .inr ?_
   rw [cth l hl];exact ⟨λe=>hj (Who.gV.inj e).symm,by simp,by simp,by simp⟩
  ·exact .inl (oK l hl)
 have an2:∀b k,(S.Z n Tc).cl b k->∀b',x.own b'->b'≠b:= λb k hb b' hb' e=>by
  have :=(eX.cl b k (o14 b k hb).2.1).2.1.symm.trans (eX.oJ (e ▸ hb'));cases this
 have hR0:gN γ' w.heap.size 0 (S.Z 0 T') dK:=by
  refine ⟨λb hb=>⟨(eX.own b ((hown b).2 (.inl hb))).1, λl h1 h2=>?_⟩, λb c hb=>⟨(o13 b c hb).1,?_, λa e1 e2=>?_⟩, λb hb=>⟨(eX.ro b (o9 b hb)).1, λl h1 h2=>?_⟩, λb hb=>⟨(eX.sy b (UJ b hb)).1,?_⟩⟩
  ·rw [pI,oK l]
   ·exact (eX.own b ((hown b).2 (.inl hb))).2 l h1 h2
   ·intro hc;rw [hC] at hc;rcases hc with ⟨_,h3⟩|⟨a,rfl,h3⟩
    ·rw [h2] at h3;exact zC b hb h3
    ·exact an2 _ _ h3 b ((hown b).2 (.inl hb)) h2.symm
  ·have e:=(eX.cl b c (o13 b c hb).2).2.1;rw [pI,nC _ (by rw [e];simp)];exact e
  ·have e:=(eX.cl b c (o13 b c hb).2).2;rw [pI,oK]
   ·exact e.2 a e1 e2
   ·intro hc;rw [hC] at hc;rcases hc with ⟨_,h3⟩|⟨a',ea,h3⟩
    ·have h3:sO a.block:=h3;rw [e1] at h3;have :=e.1.symm.trans (eX.oJ ((hown b).2 (.inr h3)));cases this
    ·cases ea;rw [e1,e2] at h3;exact (o14 b c h3).2.2 hb
  ·have e:=(eX.ro b (o9 b hb)).2 l h1 h2;rw [pI,nC l (by rw [e];simp)];exact e
  ·rw [pI];rcases (eX.sy b (UJ b hb)).2 with e|e<;>rw [nC _ (by rw [e];simp)]
   ·exact .inl e
   ·exact .inr e
 have hRc:gN γ' w.heap.size n (S.Z n Tc) sO:=by
  refine ⟨λb hb=>⟨(eX.own b ((hown b).2 (.inr hb))).1, λl h1 h2=>?_⟩, λb c hb=>⟨(o14 b c hb).1,?_, λa e1 e2=>?_⟩, λb hb=>⟨(eX.ro b (ZT b hb)).1, λl h1 h2=>?_⟩, λb hb=>⟨(eX.sy b (o12 b hb)).1,?_⟩⟩
  ·rw [pI];exact wN l (by rw [hC];exact .inl ⟨h1,by rw [h2];exact hb⟩)
  ·have e:=(eX.cl b c (o14 b c hb).2.1).2.1;rw [pI,nC _ (by rw [e];simp)];exact e
  ·rw [pI];exact wN _ (by rw [hC];exact .inr ⟨a,rfl,by rw [e1,e2];exact hb⟩)
  ·have e:=(eX.ro b (ZT b hb)).2 l h1 h2;rw [pI,nC l (by rw [e];simp)];exact e
  ·rw [pI];rcases (eX.sy b (o12 b hb)).2 with e|e<;>rw [nC _ (by rw [e];simp)]
   ·exact .inl e
   ·exact .inr e
 obtain ⟨XC,ad3,UM,UN⟩:=uZ (s':=s') o7 hon (by rw [hdd,oF,o3,o4]) (γ':=γ') (by rw [hγ];exact .inl oZ) (λh0=>absurd rfl h0) hR0;obtain ⟨θc,aw8,an3,aC0⟩:=uZ (s':=s') o8 ad2 (by rw [hdd,RH,o5]) (γ':=γ') (by rw [hγ];exact .inr rfl) (λ_=>⟨λ_=>o6, λ_=>by rw [hγ];exact .inr rfl⟩) hRc;rw [aa (by rw [o7];simp)] at UM;rw [aa (by rw [o8];simp)] at an3;have an4:stops (upd (upd θ 0 XC) n θc)=upd (upd (stops θ) 0 (some T')) n (some Tc):=by rw [Ef an3,Ef UM]
 refine ⟨XC,θc,γ',⟨λj gj hj=>?_,?_,by simp,by rw [an4];simpa [<-hn] using hai,uH,hti,by rw [hγ];exact h.B, λop hop=>?_, λb hb=>⟨(h.syn b hb).1, λl h1 h2=>?_⟩, λl hl=>?_, λl hl=>?_, λk hk=>?_, λhj=>absurd (hsame.oI ▸ hj) o2,by rw [hγ,hsame.gz];exact h.gz,by rw [hγ,hsame.oI];exact h.oI, λhf'=>?_,?_⟩,an4⟩
 ·rw [Array.getElem?_push] at hj;split at hj
  ·rename_i e;simp at e;have e:j=n:=by rw [e,hn]
   subst e;rw [upd_same];cases hj;exact aw8
  ·rename_i e;have e:j≠n:= λe'=>e (by simp [e',hn])
   rw [upd_ne e]
   by_cases hj0:j=0
   ·subst hj0;rw [upd_same];rw [aD hlt] at hj;cases hj;exact ad3
   ·rw [upd_ne hj0];rw [au (Ne.symm hj0)] at hj;have hjlt:=(aI.1 hj).1;have h2:=ad1 (x:={ g:=0,fn:=fn1,pos:=pos1,act:=.go n }) (y:={ g:=n,fn:=fn2,pos:=pos2,act:=.start }) rfl rfl (h.one j gj hj)
    have h3:One P S w (t++ #[{ g:=0,fn:=fn1,pos:=pos1,act:=.go n },{ g:=n,fn:=fn2,pos:=pos2,act:=.start }]) s' γ j gj (θ j):=by
     cases yl:θ j with
     |lv k d=>rw [yl] at h2;exact h2
     |gV y=>
      rw [yl] at h2;obtain ⟨b1,b2⟩:=h2;refine ⟨b1.imp id λ⟨c1,c2,c3⟩=>⟨c1,?_,c3⟩,b2⟩;have UI:stops θ j=some y.Tt:=by unfold stops;rw [yl];rfl
      exact ok.stay h.ai hlt hφ ((ok.CL _ hf).2 s) (ok.CL _ hf).1 (.inr ⟨Tc,hsp⟩) j y.Tt hjlt hj0 UI c2
    refine GG h3 (λy _ k=>other hj0 k) (λx=>by rw [hγ];exact .inl x) ?_
    rw [hγ];exact ⟨λx=>x.resolve_right e, λx=>.inl x⟩
 ·obtain ⟨y,hy⟩:=UN;exact ⟨y,by rw [upd_ne (Ne.symm hn0),upd_same];exact hy⟩
 ·rcases Array.mem_append.1 hop with hop|hop
  ·have :=h.nums op hop;simp;omega
  ·have :op= { g:=0,fn:=fn1,pos:=pos1,act:=.go n }∨op= { g:=n,fn:=fn2,pos:=pos2,act:=.start }:=by simpa using hop
   rcases this with rfl|rfl<;>simp;omega
 ·have e:=(h.syn b hb).2 l h1 h2;rw [pI,nC l (by rw [e];simp)];exact e
 ·have e:=h.zk l hl;rw [pI,nC l (by rw [e];simp)];exact e
 ·rw [pI]
  by_cases hc:C l
  ·rw [wN l hc];exact ⟨by simp,by simp⟩
  ·rw [oK l hc];exact h.memo l hl
 ·rw [hγ] at hk;rcases hk with hk|rfl
  ·have :=h.CP k hk;simp;omega
  ·simp [hn]
 ·obtain ⟨h2,h3⟩:=h.lk (hsame.free.1 hf');refine ⟨hsame.J G w h2, λb hb=>⟨(h3 b hb).1, λl h1 h2=>?_⟩⟩;have e:=(h3 b hb).2 l h1 h2;rw [pI,nC l (by rw [e];simp)];exact e
 ·obtain ⟨d1,d2,d3⟩:=h.dn;refine ⟨hsame.Dp D Dc w d1, λb hb=>⟨(d2 b hb).1, λl h1 h2=>?_⟩, λb k hb=>⟨(d3 b k hb).1,?_, λa e1 e2=>?_⟩⟩
  ·have e:=(d2 b hb).2 l h1 h2;rw [pI,nC l (by rw [e];simp)];exact e
  ·have e:=(d3 b k hb).2.1;rw [pI,nC _ (by rw [e];simp)];exact e
  ·have e:=(d3 b k hb).2.2 a e1 e2;rw [pI,nC _ (by rw [e];simp)];exact e
end
end
section
variable {O:Nat->Prop}
def sm:Nat->(Nat->Nat)->Nat
 |0,_=>0
 |n+1,f=>sm n f+f n
theorem Jz {f g:Nat->Nat}:∀{n:Nat},(∀j,j<n->f j<=g j)->sm n f<=sm n g
 |0,_=>aJ _
 |n+1,h=>by
  have h1:=Jz (f:=f) (g:=g) (n:=n) λj hj=>h j (by omega)
  have h2:=h n (by omega);show sm n f+f n<=sm n g+g n;omega
theorem Qa {f g:Nat->Nat} {i:Nat}:∀{n:Nat},i<n->f i<g i->(∀j,j<n->f j<=g j)->sm n f<sm n g
 |0,hi,_,_=>by omega
 |n+1,hi,hlt,h=>by
  show sm n f+f n<sm n g+g n
  by_cases e:i=n
  ·subst e;have h1:=Jz (f:=f) (g:=g) (n:=i) λj hj=>h j (by omega)
   omega
  ·have h1:=Qa (f:=f) (g:=g) (n:=n) (by omega) hlt λj hj=>h j (by omega)
   have h2:=h n (by omega);omega
section
variable {T Sh ρ:Type} {P:Program} {S:Sys T Sh} {AI:Nat->(Nat->Option T)->Sh->Prop} {free:Sh->Prop} {rk:Nat->(Nat->Option T)->Sh->ρ} {lt:ρ->ρ->Prop}
def TS.tree {T:Type}:TS T->Tr
 | .gV x=>x.tr
 | .lv _ _=>.leaf
def TS.left {T:Type}:TS T->Nat
 | .gV _=>0
 | .lv k _=>k
def trees {T:Type} (n:Nat) (θ:Nat->TS T):List Tr:=(List.range n).map λi=>(θ i).tree
def bit (gs:Array Goroutine) (i:Nat):Nat:=match gs[i]? with
 |some g=>match g.status with
  | .running=>1
  |_=>0
 |none=>0
abbrev Ms (ρ:Type):=ρ×List Tr×Nat×Nat
def ms (rk:Nat->(Nat->Option T)->Sh->ρ) (gs:Array Goroutine) (θ:Nat->TS T) (s:Sh):Ms ρ:=(rk gs.size (stops θ) s,trees gs.size θ,sm gs.size (λi=>(θ i).left),sm gs.size (bit gs))
def XD (lt:ρ->ρ->Prop):Ms ρ->Ms ρ->Prop:=Prod.Lex lt (Prod.Lex (pW Tr.Sub) (Prod.Lex Nat.lt Nat.lt))
theorem XD.wf (h:WellFounded lt):WellFounded (XD (ρ:=ρ) lt):=(Prod.lex ⟨_,h⟩ (Prod.lex ⟨_,pW.wf Tr.wf⟩ (Prod.lex Nat.lt_wfRel Nat.lt_wfRel))).wf
theorem JA {n i:Nat} {θ:Nat->TS T} {a:TS T}:trees n (upd θ i a)=(trees n θ).set i a.tree:=by
 apply List.ext_getElem?;intro j;unfold trees;rw [List.getElem?_set];simp only [List.getElem?_map,List.length_map,List.length_range]
 by_cases hj:i=j
 ·subst hj
  by_cases hi:i<n
  ·simp [hi,upd_same]
  ·simp [hi]
 ·by_cases hi:j<n
  ·simp [hi,hj,upd_ne (Ne.symm hj)]
  ·simp [hi,hj]
theorem JB {n i:Nat} {θ:Nat->TS T} (hi:i<n):(trees n θ)[i]?=some (θ i).tree:=by
 unfold trees;simp [hi]
theorem GH {θ:Nat->TS T} {i:Nat} {a:TS T} (h:a.stop?=(θ i).stop?):stops (upd θ i a)=stops θ:=by
 funext j;unfold stops
 by_cases hj:j=i
 ·subst hj;rw [upd_same];exact h
 ·rw [upd_ne hj]
theorem ad4 {gs:Array Goroutine} {w:World} {t:Trace} {θ:Nat->TS T} {s:Sh} {γ:Gh} {G D:Nat->Prop} {Dc:Nat->Nat->Prop} (h:MI P S AI free O gs w t θ s γ G D Dc):∀g∈gs,awake g:=by
 intro g hg;obtain ⟨i,hi,rfl⟩:=Array.mem_iff_getElem.1 hg;have h1:=h.one i gs[i] (aX hi);cases yl:θ i with
 |lv k d=>
  rw [yl] at h1;rcases h1.1.status with e|e<;>intro t ht<;>rw [e] at ht<;>cases ht
 |gV x=>
  rw [yl] at h1;have hrun:x.g.status= .running:=h1.2.1.running λ_ _ _=>lQ
  rcases h1.1 with e|⟨_,_,e⟩<;>intro t ht<;>rw [e] at ht
  ·rw [hrun] at ht;cases ht
  ·cases ht
theorem MI.step (ok:uX S AI free rk lt) {gs:Array Goroutine} {w:World} {sl:Option (Nat×Nat)} {t:Trace} {θ:Nat->TS T} {s:Sh} {γ:Gh} {G D:Nat->Prop} {Dc:Nat->Nat->Prop} (h:MI P S AI free O gs w t θ s γ G D Dc):
 (∃x,θ 0= .gV x∧gs[0]?=some x.g∧x.tr= .leaf∧S.ret x.Tt=true)∨
 ∃gs' w' sl' ops Mo s' γ' G' D' IW,stepT P (crowd gs w sl)=(.next (crowd gs' w' sl'),ops)∧MI P S AI free O gs' w' (t++ops) Mo s' γ' G' D' IW∧XD lt (ms rk gs' Mo s') (ms rk gs θ s):=by
 obtain ⟨x0,hx0⟩:=h.main
 by_cases hA:x0.tr= .leaf∧S.ret x0.Tt=true
 ·refine .inl ⟨x0,hx0,?_,hA⟩;have hp:=h.pos;have h1:=h.one 0 gs[0] (aX hp);rw [hx0] at h1;rcases h1.1 with e|⟨_,e,_⟩
  ·rw [<-e];exact aX hp
  ·exact absurd e (ok.Oq _ _ hA.2)
 ·refine .inr ?_
  have some1:∃(i:Nat) (g:Goroutine),gs[i]?=some g∧g.status= .running:=by
   obtain ⟨i,Tt,hi,hφ,hnb⟩:=ok.alive h.ai;refine ⟨i,gs[i],aX hi,?_⟩;have h1:=h.one i gs[i] (aX hi);cases yl:θ i with
   |lv k d=>unfold stops at hφ;rw [yl] at hφ;cases hφ
   |gV x=>
    rw [yl] at h1;have :x.Tt=Tt:=by unfold stops at hφ;rw [yl] at hφ;exact aU hφ
    rcases h1.1 with e|⟨_,e,_⟩
    ·rw [e];exact h1.2.1.running λ_ _ _=>lQ
    ·rw [this] at e;exact absurd e hnb
  obtain ⟨i,g,d,sl',hi,hg,hst⟩:=crowd_pick (P:=P) (w:=w) (sl:=sl) (ad4 h) some1;have hm:=MI.at ok h d;generalize w.at d=wd at hst hm;have hlt:=(aI.1 hi).1;have h1:=hm.one i g hi;cases yl:θ i with
  |lv k d'=>
   obtain ⟨k',d'',g',es,hk,hgo,hm'⟩:=MI.leaver hm hi yl hg;refine ⟨_,_,sl',_,_,s,γ,G,D,Dc,by rw [hst,runT_crowd_go hi hgo],hm',?_⟩;unfold ms XD;have hsz:((gs.map (woken P g g' wd)).setIfInBounds i g').size=gs.size:=by simp
   rw [hsz,GH (by rw [yl];rfl),JA]
   have htr:(trees gs.size θ).set i (TS.lv (T:=T) k' d'').tree=trees gs.size θ:=by
    apply List.ext_getElem?;intro j;rw [List.getElem?_set];split
    ·rename_i e;subst e;rw [JB hlt,yl];split
     ·rfl
     ·rename_i e;unfold trees at e;simp at e;omega
    ·rfl
   rw [htr];refine .right _ (.right _ (.left _ _ ?_));refine Qa hlt (by rw [upd_same,yl];show k'<k;omega) λj _=>?_
   by_cases hj:j=i
   ·subst hj;rw [upd_same,yl];show k'<=k;omega
   ·rw [upd_ne hj];exact aJ _
  |gV x=>
   rw [yl] at h1
   have hgx:g=x.g:=by
    rcases h1.1 with e|⟨_,_,e⟩
    ·exact e
    ·rw [e] at hg;cases hg
   subst hgx;cases htr:x.tr with
   |node f=>
    obtain ⟨g',w',es,hgo,hm'⟩:=MI.private ok hm hi yl htr;refine ⟨_,_,sl',_,_,s,_,G,D,Dc,by rw [hst,runT_crowd_go hi hgo],hm',?_⟩;unfold ms XD;have hsz:((gs.map (woken P x.g g' w')).setIfInBounds i g').size=gs.size:=by simp
    rw [hsz,GH (by rw [yl];rfl),JA];refine .right _ (.left _ _ (pW.UE (b:=.node f) ?_ ⟨f,wd,rfl,rfl⟩));rw [JB hlt,yl];exact congrArg some htr
   |leaf=>
    obtain ⟨_,P9,Gy,_⟩:=h1;rw [htr] at P9;have ad5:=(P9 wd Gy).law;have hφ:stops θ i=some x.Tt:=by unfold stops;rw [yl];rfl
    obtain ⟨f1,f2,f3,f4⟩:=ok.fits hm.ai hlt hφ;obtain ⟨l1,l2,l3⟩:=ad5;have l4:=l3 s hm.rep f1
    by_cases hr:S.ret x.Tt=true
    ·exfalso;have h0:=f4 hr;subst h0;rw [hx0] at yl;cases yl;exact hA ⟨htr,hr⟩
    rw [aa hr] at l4;have hr':S.ret x.Tt=false:=by simpa using hr
    by_cases hf:S.fork x.Tt=true
    ·rw [aj hf] at l4;obtain ⟨T',Tc,s',g',child,sO,dK,a1,a2,a3,a4,a5,a6,a7⟩:=l4;have h0:=f3 hf;subst h0;obtain ⟨XC,θc,γ',hm',hst'⟩:=MI.RG ok hm hi yl hf a1 a3 a4 a5 a6 a7 x.g.frame.fn child.frame.fn x.g.frame.place x.g.frame.place;refine ⟨_,_,sl',_,_,s',γ',G,D,Dc,by rw [hst,runT_crowd_spawn hi a2];rfl,hm',?_⟩;unfold ms XD;have hsz:((gs.setIfInBounds 0 g').push child).size=gs.size+1:=by simp
     rw [hsz,hst'];exact .left _ _ (ok.spawn hm.ai hφ hf a1).2
    ·rw [aa hf] at l4;have hf':S.fork x.Tt=false:=by simpa using hf
     rcases l4 with ⟨hb,hgo⟩|⟨hb,T',s',g',w',es,a1,a2,a3,a4,a5,a6,a7⟩
     ·have hm':=MI.waits hm hi yl htr hb
      have hmap:(gs.map (woken P x.g { x.g with status:=.blocked } wd)).setIfInBounds i { x.g with status:=.blocked }=gs.setIfInBounds i { x.g with status:=.blocked }:=by
       have :woken P x.g { x.g with status:=.blocked } wd=id:=by
        funext o;unfold woken;simp
       rw [this,Array.map_id]
      refine ⟨_,_,sl',_,θ,s,γ,G,D,Dc,by rw [hst,runT_crowd_go hi hgo,hmap],by
       have e:MemOp.ofEvents i x.g.frame.fn x.g.frame.place #[]= #[]:=rfl;rw [e,Array.append_empty];exact hm',?_⟩
      unfold ms XD;have hsz:(gs.setIfInBounds i { x.g with status:=.blocked }).size=gs.size:=by simp
      rw [hsz];refine .right _ (.right _ (.right _ ?_))
      have hbi:bit (gs.setIfInBounds i { x.g with status:=.blocked }) i=0:=by
       unfold bit;rw [aD hlt]
      have aw9:bit gs i=1:=by
       unfold bit;rw [hi];simp only [hg]
      refine Qa hlt (by rw [hbi,aw9];omega) λj _=>?_
      by_cases hj:j=i
      ·subst hj;rw [hbi];omega
      ·unfold bit;rw [au (Ne.symm hj)];exact aJ _
     ·have fin:∀{Mo:Nat->TS T} {γ' G' D' IW},MI P S AI free O ((gs.map (woken P x.g g' w')).setIfInBounds i g') w' (t++MemOp.ofEvents i x.g.frame.fn x.g.frame.place es) Mo s' γ' G' D' IW->stops Mo=upd (stops θ) i (if S.quit T' then none else some T')->
       ∃gs' w' sl' ops Mo s' γ' G' D' IW,stepT P (crowd gs w sl)=(.next (crowd gs' w' sl'),ops)∧MI P S AI free O gs' w' (t++ops) Mo s' γ' G' D' IW∧XD lt (ms rk gs' Mo s') (ms rk gs θ s):=by
       intro Mo γ' G' D' IW hm' hst';refine ⟨_,_,sl',_,Mo,s',γ',G',D',IW,by rw [hst,runT_crowd_go hi a2],hm',?_⟩;unfold ms XD;have hsz:((gs.map (woken P x.g g' w')).setIfInBounds i g').size=gs.size:=by simp
       rw [hsz,hst'];exact .left _ _ (ok.move hm.ai hlt hφ hf' hr' hb a1).2
      cases hk:S.kind x.Tt<;>rw [hk] at a7<;>dsimp only at a7
      case uV=>obtain ⟨uY,γ',G',b1,b2⟩:=MI.XZ ok hm hi yl hf' hr' hb a1 a3 a4 a5 a6 hk a7;exact fin b1 b2
      case uW=>obtain ⟨uY,γ',G',b1,b2⟩:=MI.X0 ok hm hi yl hf' hr' hb a1 a3 a4 a5 a6 hk a7;exact fin b1 b2
      case done=>obtain ⟨uY,γ',D',IW,b1,b2⟩:=MI.UK ok hm hi yl hf' hr' hb a1 a3 a4 a5 a6 hk a7.1 a7.2;exact fin b1 b2
      case join=>obtain ⟨uY,γ',G',D',IW,b1,b2⟩:=MI.UL ok hm hi yl hf' hr' hb a1 a3 a4 a5 a6 hk a7;exact fin b1 b2
      all_goals
       obtain ⟨uY,b1,b2⟩:=MI.RF ok hm hi yl hf' hr' hb a1 a3 a4 a5 a6 (by rw [hk];rfl) a7;exact fin b1 b2
theorem MI.run (ok:uX S AI free rk lt):∀(μ:Ms ρ) {gs:Array Goroutine} {w:World} {sl:Option (Nat×Nat)} {t:Trace} {θ:Nat->TS T} {s:Sh} {γ:Gh} {G D:Nat->Prop} {Dc:Nat->Nat->Prop},ms rk gs θ s=μ->MI P S AI free O gs w t θ s γ G D Dc->
 ∃N gs' w' sl' t' Mo s' γ' G' D' IW x,runNT P N (crowd gs w sl) t=(.next (crowd gs' w' sl'),t')∧MI P S AI free O gs' w' t' Mo s' γ' G' D' IW∧Mo 0= .gV x∧gs'[0]?=some x.g∧x.tr= .leaf∧S.ret x.Tt=true:=by
 intro μ
 induction μ using (XD.wf ok.wf).induction with
 |_ μ ih=>
  intro gs w sl t θ s γ G D Dc hμ h;rcases MI.step (sl:=sl) ok h with ⟨x,h1,h2,h3,h4⟩|⟨gs1,w1,sl1,ops,θ1,s1,γ1,G1,D1,Dc1,h1,h2,h3⟩
  ·exact ⟨0,gs,w,sl,t,θ,s,γ,G,D,Dc,x,rfl,h,h1,h2,h3,h4⟩
  ·obtain ⟨N,gs',w',sl',t',Mo,s',γ',G',D',IW,x,r,rest⟩:=ih _ (by rw [<-hμ];exact h3) (sl:=sl1) rfl h2;exact ⟨N+1,gs',w',sl',t',Mo,s',γ',G',D',IW,x,by rw [runNT_succ_next h1];exact r,rest⟩
end
end
section
variable {O:Nat->Prop}
open Classical in
noncomputable def Ja (dead:Nat->Prop) (B:Nat):Gh:={ B:=B,who:= λl=>if fZ l then (if dead (lb l) then .sy else .gV 0) else .fr,live:= λg=>g=0,act:= λ_=>False,lock:=none,wg:=none }
structure QF (P:Program) (dead:Nat->Prop) (gs:Array Goroutine) (w:World) (t:Trace) (g:Goroutine):Prop where
 main:gs[0]?=some g
 lv:∀i g',i≠0->gs[i]?=some g'->∃k,QuitsD P k (Deaf t i) g'
 d0:Deaf t 0=0
 nums:∀op∈t,op.g<gs.size
 dlt:∀b,dead b->b<w.heap.size
 ti:TI (Ja dead w.heap.size) t
def Z0:gG:={ ro:= λ_=>False,sy:= λ_=>False,cl:= λ_ _=>False }
def Ends (P:Program) (Post:Value->World->Prop) (m:Machine) (t:Trace):Prop:=
 ∃N last o w' t',runNT P (N+1) m t=(.ended o w',t')∧runN P N m= .next last∧step P last= .ended o w'∧Good P Post last o w' t'
theorem Ends.after {P:Program} {Post:Value->World->Prop} {m m':Machine} {t t':Trace} {N:Nat} (h:runNT P N m t=(.next m',t')) (he:Ends P Post m' t'):Ends P Post m t:=by
 obtain ⟨K,last,o,w',t'',h1,h2,h3,h4⟩:=he;refine ⟨N+K,last,o,w',t'',?_,?_,h3,h4⟩
 ·rw [Nat.add_assoc,runNT_add,h];exact h1
 ·have :=runNT_fst P N m t;rw [h] at this;rw [runN_add, <-this];exact h2
def jR (P:Program) (Post:Value->World->Prop) (dead own:Nat->Prop) (g:Goroutine) (W:World):Prop:=
 g.status= .running∧g.offers=none∧((∀b,own b->b<W.heap.size∧¬dead b)->∀W1,dZ Z0 own W W1->∀gs t sl,QF P dead gs W1 t g->Ends P Post (crowd gs W1 sl) t)
section
variable {T Sh ρ:Type} {P:Program} {S:Sys T Sh} {AI:Nat->(Nat->Option T)->Sh->Prop} {free:Sh->Prop} {rk:Nat->(Nat->Option T)->Sh->ρ} {lt:ρ->ρ->Prop} {Post:Value->World->Prop} {dead own:Nat->Prop} {g:Goroutine} {W w:World}
structure ZV (P:Program) (S:Sys T Sh) (AI:Nat->(Nat->Option T)->Sh->Prop) (free:Sh->Prop) (dead own:Nat->Prop) (g:Goroutine) (w:World) (T0:T) (s0:Sh) (Ro Gl Pt O:Nat->Prop):Prop where
 sw:∀b,dead b->S.syn b∨O b
 old:∀b,O b->b<w.heap.size∧¬S.syn b∧¬own b∧¬Ro b∧¬Gl b∧¬Pt b
 syn:∀b,S.syn b->b<w.heap.size
 dK:∀b,own b->b<w.heap.size∧¬S.syn b∧¬Ro b∧¬Gl b∧¬Pt b
 ro:∀b,Ro b->b<w.heap.size∧¬S.syn b
 gl:∀b,Gl b->b<w.heap.size∧¬S.syn b∧¬Ro b
 pt:∀b,Pt b->b<w.heap.size∧¬S.syn b∧¬Ro b∧¬Gl b
 zro:∀b,(S.Z 0 T0).ro b->Ro b
 zsy:∀b,(S.Z 0 T0).sy b->S.syn b∨Pt b
 zcl:∀b k,(S.Z 0 T0).cl b k->(S.Z 0 T0).sy b∧Pt b
 ai:∀n,0<n->AI n (λi=>if i=0 then some T0 else none) s0
 quit:S.quit T0=false
 deaf:S.deaf T0=0
 rep:S.Fq s0 w
 j:free s0->S.J s0 Gl w
 dp:S.Dp s0 (λ_=>False) (λ_ _=>False) w
 wg:S.oI s0=none->∀b,¬Ro b∧¬Gl b∧¬Pt b
 on:On P S (At P S) 0 T0 own g w
theorem QF.open {gs:Array Goroutine} {t:Trace} (hq:QF P dead gs w t g) {T0:T} {s0:Sh} {Ro Gl Pt:Nat->Prop} (o:ZV P S AI free dead own g w T0 s0 Ro Gl Pt O):
 ∃θ γ,MI P S AI free O gs w t θ s0 γ Gl (λ_=>False) (λ_ _=>False):=by
 classical
 have hlt:=(aI.1 hq.main).1;obtain ⟨eF,kr⟩:∃eF:Loc->Who,eF= λl=>if fZ l then (if S.syn (lb l)∨O (lb l) then .sy else if Ro (lb l) then .ro else if Gl (lb l) then .lk else if Pt (lb l)∧l= .obj (lb l) then .pt else .gV 0) else .fr:=⟨_,rfl⟩
 have X7:∀l,fZ l->S.syn (lb l)∨O (lb l)->eF l= .sy:= λl h1 h2=>by rw [kr];simp [h1,h2]
 have wro:∀l,fZ l->¬(S.syn (lb l)∨O (lb l))->Ro (lb l)->eF l= .ro:= λl h1 h2 h3=>by rw [kr];simp [h1,h2,h3]
 have wlk:∀l,fZ l->¬(S.syn (lb l)∨O (lb l))->¬Ro (lb l)->Gl (lb l)->eF l= .lk:= λl h1 h2 h3 h4=>by rw [kr];simp [h1,h2,h3,h4]
 have wpt:∀b,¬(S.syn b∨O b)->¬Ro b->¬Gl b->Pt b->eF (.obj b)= .pt:= λb h2 h3 h4 h5=>by
  rw [kr];have h1:fZ (.obj b):=trivial;have e:lb (.obj b)=b:=rfl;simp only [h1,e,h2,h3,h4,h5,if_true,if_false,and_self]
 have ZR:∀l,fZ l->¬(S.syn (lb l)∨O (lb l))->¬Ro (lb l)->¬Gl (lb l)->¬(Pt (lb l)∧l= .obj (lb l))->eF l= .gV 0:= λl h1 h2 h3 h4 h5=>by rw [kr];simp only [h1,h2,h3,h4,h5,if_true,if_false]
 have wfr:∀l,¬fZ l->eF l= .fr:= λl h1=>by rw [kr];simp [h1]
 have q0:∀l,fZ l->¬dead (lb l)->(Ja dead w.heap.size).who l= .gV 0:= λl h1 h2=>by unfold Ja;simp [h1,h2]
 have q1:∀l,fZ l->dead (lb l)->(Ja dead w.heap.size).who l= .sy:= λl h1 h2=>by unfold Ja;simp [h1,h2]
 have q2:∀l,¬fZ l->(Ja dead w.heap.size).who l= .fr:= λl h1=>by unfold Ja;simp [h1]
 obtain ⟨γ,hγ⟩:∃γ:Gh,γ= { Ja dead w.heap.size with who:=eF,wg:=S.oI s0,lock:=S.gz s0 }:=⟨_,rfl⟩;have pI:γ.who=eF:=by rw [hγ]
 have hti:TI γ t:=by
  rw [hγ];refine hq.ti.am8 (λg hg=>hg) (λl=>?_) (λ_ _ h=>h) rfl rfl _ _
  by_cases hm:fZ l
  ·by_cases hd:dead (lb l)
   ·exact .inl (by rw [q1 l hm hd,X7 l hm (o.sw _ hd)])
   ·by_cases h2:S.syn (lb l)∨O (lb l)
    ·exact .inr ⟨q0 l hm hd,.inr (.inr (.inl (X7 l hm h2)))⟩
    by_cases h3:Ro (lb l)
    ·exact .inr ⟨q0 l hm hd,.inl (wro l hm h2 h3)⟩
    by_cases h4:Gl (lb l)
    ·exact .inr ⟨q0 l hm hd,.inr (.inl (wlk l hm h2 h3 h4))⟩
    by_cases h5:Pt (lb l)∧l= .obj (lb l)
    ·have :=wpt _ h2 h3 h4 h5.1;rw [<-h5.2] at this;exact .inr ⟨q0 l hm hd,.inr (.inr (.inr this))⟩
    ·exact .inl (by rw [ZR l hm h2 h3 h4 h5,q0 l hm hd])
  ·exact .inl (by rw [wfr l hm,q2 l hm])
 have noO:∀b,own b∨Ro b∨Gl b∨Pt b->¬S.syn b->¬(S.syn b∨O b):= λb hb hs hx=>by
  rcases hx with hx|hx
  ·exact hs hx
  ·obtain ⟨_,_,a1,a2,a3,a4⟩:=o.old b hx;rcases hb with hb|hb|hb|hb
   ·exact a1 hb
   ·exact a2 hb
   ·exact a3 hb
   ·exact a4 hb
 have hR:gN γ w.heap.size 0 (S.Z 0 T0) own:=by
  refine ⟨λb hb=>⟨(o.dK b hb).1, λl h1 h2=>?_⟩, λb c hb=>⟨(o.zcl b c hb).1,?_, λa e1 e2=>?_⟩, λb hb=>⟨(o.ro b (o.zro b hb)).1, λl h1 h2=>?_⟩, λb hb=>?_⟩
  ·obtain ⟨_,a1,a2,a3,a4⟩:=o.dK b hb;rw [pI];exact ZR l h1 (by rw [h2];exact noO b (.inl hb) a1) (by rw [h2];exact a2) (by rw [h2];exact a3) (by rw [h2];exact λx=>a4 x.1)
  ·obtain ⟨_,a1,a2,a3⟩:=o.pt b (o.zcl b c hb).2;rw [pI];exact wpt b (noO b (.inr (.inr (.inr (o.zcl b c hb).2))) a1) a2 a3 (o.zcl b c hb).2
  ·obtain ⟨_,a1,a2,a3⟩:=o.pt b (o.zcl b c hb).2;rw [pI];exact ZR _ trivial (by show ¬(S.syn a.block∨O a.block);rw [e1];exact noO b (.inr (.inr (.inr (o.zcl b c hb).2))) a1) (by show ¬Ro a.block;rw [e1];exact a2) (by show ¬Gl a.block;rw [e1];exact a3) (λx=>by cases x.2)
  ·obtain ⟨_,a1⟩:=o.ro b (o.zro b hb);rw [pI];exact wro l h1 (by rw [h2];exact noO b (.inr (.inl (o.zro b hb))) a1) (by rw [h2];exact o.zro b hb)
  ·rcases o.zsy b hb with h1|h1
   ·exact ⟨o.syn b h1,.inl (by rw [pI];exact X7 (.obj b) trivial (.inl h1))⟩
   ·obtain ⟨a0,a1,a2,a3⟩:=o.pt b h1;exact ⟨a0,.inr (by rw [pI];exact wpt b (noO b (.inr (.inr (.inr h1))) a1) a2 a3 h1)⟩
 obtain ⟨XC,ad3,UM,UN⟩:=uZ (s':=s0) (t':=t) o.quit o.on (by rw [hq.d0,o.deaf]) (γ':=γ) (by rw [hγ];rfl) (λh0=>absurd rfl h0) hR;rw [aa (by rw [o.quit];simp)] at UM
 let θ:Nat->TS T:= λi=>if i=0 then XC else if h:∃g' k,gs[i]?=some g'∧QuitsD P k (Deaf t i) g' then .lv h.choose_spec.choose (Deaf t i) else .lv 0 0
 have ax0:∀i g',i≠0->gs[i]?=some g'->∃k,θ i= .lv k (Deaf t i)∧QuitsD P k (Deaf t i) g':=by
  intro i g' h0 hg;obtain ⟨k,hk⟩:=hq.lv i g' h0 hg;have h:∃g' k,gs[i]?=some g'∧QuitsD P k (Deaf t i) g':=⟨g',k,hg,hk⟩
  refine ⟨h.choose_spec.choose,?_,?_⟩
  ·show (if i=0 then XC else if h:∃g' k,gs[i]?=some g'∧QuitsD P k (Deaf t i) g' then TS.lv h.choose_spec.choose (Deaf t i) else .lv 0 0)=_;rw [aa h0,dif_pos h]
  ·have h3:=h.choose_spec.choose_spec;have e:g'=h.choose:=aU (hg.symm.trans h3.1);rw [e];exact h3.2
 have hstops:stops θ= λi=>if i=0 then some T0 else none:=by
  funext i;unfold stops
  by_cases h0:i=0
  ·subst h0;exact UM
  ·show (if i=0 then XC else if h:∃g' k,gs[i]?=some g'∧QuitsD P k (Deaf t i) g' then TS.lv h.choose_spec.choose (Deaf t i) else .lv 0 0).stop?=_;rw [aa h0,aa h0];split<;>rfl
 refine ⟨θ,γ,⟨λi gi hi=>?_,UN,hlt,by rw [hstops];exact o.ai _ hlt,o.rep,hti,by rw [hγ];rfl,hq.nums, λb hb=>⟨hb.elim (o.syn b) λx=>(o.old b x).1, λl h1 h2=>by rw [pI];exact X7 l h1 (by rw [h2];exact hb)⟩, λl hl=>by rw [pI];exact wfr l hl, λl hl=>?_, λi hi=>?_, λhn l hl hs=>?_,by rw [hγ],by rw [hγ], λhf=>⟨o.j hf, λb hb=>⟨(o.gl b hb).1, λl h1 h2=>?_⟩⟩,o.dp, λb hb=>hb.elim, λb k hb=>hb.elim⟩⟩
 ·by_cases h0:i=0
  ·subst h0;rw [hq.main] at hi;cases hi;exact ad3
  ·obtain ⟨k,h1,h2⟩:=ax0 i gi h0 hi;rw [h1];exact ⟨h2,rfl,h0, λha=>by rw [hγ] at ha;exact ha⟩
 ·rw [pI]
  by_cases h2:S.syn (lb l)∨O (lb l)
  ·rw [X7 l hl h2];exact ⟨by simp, λ_=>h2⟩
  by_cases h3:Ro (lb l)
  ·rw [wro l hl h2 h3];exact ⟨by simp,by simp⟩
  by_cases h4:Gl (lb l)
  ·rw [wlk l hl h2 h3 h4];exact ⟨by simp,by simp⟩
  by_cases h5:Pt (lb l)∧l= .obj (lb l)
  ·have :=wpt _ h2 h3 h4 h5.1;rw [<-h5.2] at this;rw [this];exact ⟨by simp,by simp⟩
  ·rw [ZR l hl h2 h3 h4 h5];exact ⟨by simp,by simp⟩
 ·rw [hγ] at hi;exact hi.elim
 ·obtain ⟨a1,a2,a3⟩:=o.wg hn (lb l);rw [pI];exact ZR l hl hs a1 a2 (λx=>a3 x.1)
 ·obtain ⟨_,a1,a2⟩:=o.gl b hb;rw [pI];exact wlk l h1 (by rw [h2];exact noO b (.inr (.inr (.inl hb))) a1) (by rw [h2];exact a2) (by rw [h2];exact hb)
theorem MI.close {gs:Array Goroutine} {t:Trace} {θ:Nat->TS T} {s:Sh} {γ:Gh} {G D:Nat->Prop} {Dc:Nat->Nat->Prop} (h:MI P S AI free O gs w t θ s γ G D Dc)
 {x:UG T} (h0:gs[0]?=some x.g) (hx:θ 0= .gV x) (hl:S.gz s=none) (hw:S.oI s=none) (hd:S.deaf x.Tt=0) (hj:∀j,j<gs.size->j≠0->stops θ j=none):
 QF P (λb=>S.syn b∨O b) gs w t x.g∧∀b,x.own b->b<w.heap.size∧¬(S.syn b∨O b):=by
 classical
 have h1:=h.one 0 x.g h0;rw [hx] at h1;obtain ⟨_,_,_,oF,oZ,_,eX⟩:=h1
 have lvs:∀i g',i≠0->gs[i]?=some g'->∃k d,θ i= .lv k d∧QuitsD P k d g'∧Deaf t i=d∧¬γ.act i:=by
  intro i g' hi hg;have h1:=h.one i g' hg;cases yl:θ i with
  |gV y=>
   have :=hj i (aI.1 hg).1 hi;unfold stops at this;rw [yl] at this;cases this
  |lv k d=>rw [yl] at h1;exact ⟨k,d,rfl,h1.1,h1.2.1,h1.2.2.2⟩
 have hno:∀i,i≠0->¬γ.act i:= λi hi ha=>by
  have hlt:=h.CP i ha;obtain ⟨_,_,_,_,_,hn⟩:=lvs i gs[i] hi (aX hlt);exact hn ha
 have kr:γ.who=(Ja (λb=>S.syn b∨O b) w.heap.size).who:=by
  funext l
  by_cases hm:fZ l
  ·by_cases hs:S.syn (lb l)∨O (lb l)
   ·rw [(h.syn _ hs).2 l hm rfl];unfold Ja;simp [hm,hs]
   ·rw [h.jn hw l hm hs];unfold Ja;simp [hm,hs]
  ·rw [h.zk l hm];unfold Ja;simp [hm]
 refine ⟨⟨h0, λi g' hi hg=>?_,by rw [oF,hd],h.nums, λb hb=>(h.syn b hb).1,?_⟩, λb hb=>⟨(eX.own b hb).1, λhs=>?_⟩⟩
 ·obtain ⟨k,d,_,h2,h3,_⟩:=lvs i g' hi hg;exact ⟨k,by rw [h3];exact h2⟩
 ·have hti:=h.ti;have hnw:=hti.new;rw [h.B] at hnw;refine ⟨λl i hl=>hti.gV l i (by rw [kr];exact hl), λl i hl hlv=>hti.ro l i (by rw [kr];exact hl) (by have hlv:i=0:=hlv;rw [hlv];exact oZ), λi z op hs hz hop=>?_, λl i z hl hz e=>?_,hnw, λi op hi hg hs=>?_,hti.nr,hti.nl⟩
  ·refine (hti.sy i z op (by rw [kr];exact hs) hz hop).imp id λh1 k hk=>?_
   have hk:k=0:=hk;rw [hk];exact h1 0 oZ
  ·exfalso;have hl:(Ja (λb=>S.syn b∨O b) w.heap.size).who l= .lk:=hl;unfold Ja at hl;dsimp only at hl;split at hl
   ·split at hl<;>cases hl
   ·cases hl
  ·have hs':Says γ t i:=hs.imp id λ⟨z,hz,hn⟩=>⟨z,hz,by rw [kr];exact hn⟩
   rcases hti.ho i op hi hg hs' with h2|h2|⟨a0,h2,_⟩
   ·exact absurd h2 (hno _ hg)
   ·exact .inr (.inl h2)
   ·rw [h.oI,hw] at h2;cases h2
 ·have :=((h.syn b hs).2 (.obj b) trivial rfl).symm.trans (eX.oJ hb);cases this
end
end
end Par
