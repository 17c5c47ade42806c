/- Part 3. -/
import Derived.Conc.Beside
import Derived.Conc.JoinWorld
import Derived.Test.YtjoahejacacljaaGreatH01
set_option maxRecDepth 100000
set_option maxHeartbeats 0
set_option linter.all false
namespace cS
open Go Go.Conc Go.ConcM
section
variable [Sh]
def FA(S V:FuncId->Bool)(cd:Code->Bool)(A:Nat->Bool):Fit:=⟨S,A,cd,V⟩
def Bd(A:Nat->Bool)(n:Nat):Nat->Bool:= λb=>A b&&decide (b<n)
def gH{A:Nat->Bool}{n b:Nat}:Bd A n b=true↔A b=true∧b<n:=by simp[Bd]
def Wq{A:Nat->Bool}{n m:Nat}(h:n<=m):∀b,Bd A n b=true->Bd A m b=true:= λb hb=>by rw[gH]at hb⊢;exact⟨hb.1,by omega⟩
def Ws:Obj->Obj
 | .cells c e _=>.cells c e (0,c.size)
 |o=>o
open Classical in
noncomputable def lw(ro:Nat->Prop)(W:World)(τ:Nat->Question->Nat):World:=
 { W with heap:=W.heap.mapIdx λb o=>if ro b then Ws o else o,tape:=τ }
structure Since(Z:fO)(W W':World):Prop where
 tape:W'.tape=W.tape
 out:W'.output=W.output
 os:OsLater W.os W'.os
 size:W.heap.size<=W'.heap.size
 ro:∀b,Z.ro b->W'.heap[b]?=W.heap[b]?
 sy:∀b,Z.sy b->tV W.heap[b]? W'.heap[b]?
 cl:∀b i,Z.cl b i->W'.cell? ⟨b,i,none⟩=W.cell? ⟨b,i,none⟩
def Since.refl(Z:fO)(W:World):Since Z W W:=⟨rfl,rfl,OsLater.refl _,aJ _, λ_ _=>rfl, λ_ _=>tV.refl _, λ_ _ _=>rfl⟩
def Since.trans{Z:fO}{a b c:World}(h:Since Z a b)(k:Since Z b c):Since Z a c:=
 ⟨k.tape.trans h.tape,k.out.trans h.out,h.os.trans k.os,aS h.size k.size, λx hx=>(k.ro x hx).trans (h.ro x hx), λx hx=>(h.sy x hx).trans (k.sy x hx), λx i hx=>(k.cl x i hx).trans (h.cl x i hx)⟩
def dM.since{Z:fO}{own:Nat->Prop}{a b:World}(h:dM Z own a b):Since Z a b:=⟨h.tape,h.out,h.os,h.size,h.ro,h.sy,h.cl⟩
structure St(δ:Type) where
 fr:Frame
 up:List Frame
 w:World
 f:Nat->Nat
 own:Nat->Prop
 W:World
 d:δ
structure Oc where
 w0:World
 W0:World
 f0:Nat->Nat
 L:Nat->Prop
 dR:Nat->Prop
 A:Nat->Bool
structure Ba(P:Program)(S V:FuncId->Bool)(cd:Code->Bool)(Z:fO)(D:Oc)(fT:Frame)(t:Nat){δ:Type}(s:St δ):Prop where
 stk:tQ P (FA S V cd (Bd D.A s.w.heap.size)) s.fr s.up
 mode:s.fr.mode=.run∨s.fr.mode=.returning
 wr:WR (FA S V cd (Bd D.A s.w.heap.size)) s.f s.w s.W
 n0:D.w0.heap.size<=s.w.heap.size
 fid:∀b,b<D.w0.heap.size->s.f b=D.f0 b
 DY:∀b,b<s.w.heap.size->Sh.hol b=false->s.f b<s.W.heap.size
 Wt:∀b,D.w0.heap.size<=b->b<s.w.heap.size->D.W0.heap.size<=s.f b
 Ez:∀b c,D.w0.heap.size<=b->b<c->c<s.w.heap.size->s.f b<s.f c
 img:∀b,b<s.w.heap.size->D.A b=true->s.own (s.f b)∨Z.ro (s.f b)
 lk:∀(b:Nat)(o:Obj),D.A b=true->s.w.heap[b]?=some o->¬iZ o->s.own (s.f b)∧¬D.L (s.f b)
 owns:∀b,D.dR b->s.own b
 PM:∀b,s.own b->D.dR b∨D.W0.heap.size<=b
 Wu:∀b,s.own b->b<s.W.heap.size
 since:Since Z D.W0 s.W
 kept:∀b,D.L b->s.W.heap[b]?=D.W0.heap[b]?
 run:∀τ,(∀j q,j<s.w.drawn->τ j q=s.w.tape j q)->runN P t (lone fT [cS.stk] (D.w0.tp τ))=.next (lone s.fr (s.up++ [cS.stk]) (s.w.tp τ))
structure Inv(P Q:Program)(S V:FuncId->Bool)(cd:Code->Bool)(main:Bool)(Z:fO){δ:Type}(Stop:δ->(Nat->Prop)->Goroutine->World->Prop)(D:Oc)(K:List Frame)(fT:Frame)(t:Nat)(s:St δ):Prop extends Ba P S V cd Z D fT t s where
 mf:¬Gw Q main Z (Stop s.d) s.own (G (ic s.f s.fr) (s.up.map (ic s.f)++K)) s.W
structure SU(P Q:Program)(S V:FuncId->Bool)(cd:Code->Bool)(main:Bool)(Z:fO){δ:Type}(Stop:δ->(Nat->Prop)->Goroutine->World->Prop)(D:Oc)(K:List Frame)(fT:Frame)(t:Nat)(s:St δ):Prop extends Ba P S V cd Z D fT t s where
 ZP:∃g aS,S g=true∧(V g=true∨aS= #[])∧s.up≠ []∧s.fr=Frame.enter P g aS .normal∧Q.funcs[g]?≠P.funcs[g]?∧
  ¬Gw Q main Z (Stop s.d) s.own (G (Frame.enter Q g (aS.map (rv s.f)) .normal) (s.up.map (ic s.f)++K)) s.W
section
variable {P Q:Program} {S V:FuncId->Bool} {cd:Code->Bool} {main:Bool} {Z:fO} {δ:Type} {Stop:δ->(Nat->Prop)->Goroutine->World->Prop} {D:Oc} {K:List Frame} {fT:Frame} {R:Value->World->Prop}
structure Ground(P:Program)(S V:FuncId->Bool)(cd:Code->Bool)(Z:fO)(D:Oc):Prop where
 good:∀A:Nat->Bool,kL P (FA S V cd A)
 gD:iA P=true
 ja:P.globals.size<D.w0.heap.size
 xT:∀b,b<=P.globals.size->D.f0 b=b
 XC:∀b,b<D.w0.heap.size->Sh.hol b=false->D.f0 b<D.W0.heap.size
 bV:∀a b,a<D.w0.heap.size->b<D.w0.heap.size->Sh.lk a=false->Sh.hol b=false->D.f0 a=D.f0 b->a=b
 ZN:∀b,b<=P.globals.size->Sh.lk b=false
 bad:∀b,Sh.lk b=true->P.info? Sh.bad=none
 cc:∀b,Sh.lk b=true->∀t i,P.info? t=some i->∀u,i.desc≠ .named "sync.copyChecker" u
 oT:∀b,Sh.lk b=true->b<D.w0.heap.size
 a0:∀b,b<D.w0.heap.size->D.A b=true->D.dR (D.f0 b)∨Z.ro (D.f0 b)
 af:∀b,D.w0.heap.size<=b->D.A b=true
 own:∀b,D.dR b->b<D.W0.heap.size∧¬Z.sy b∧¬Z.ro b
 ro:∀b,Z.ro b->b<D.W0.heap.size
 sy:∀b,Z.sy b->b<D.W0.heap.size
 cl:∀b i,Z.cl b i->Z.sy b
 lL:∀b,D.L b->b<D.W0.heap.size∧(Z.ro b∨D.dR b)
 nm:¬Z.mute
 Uy:∀b,D.A b=true->Sh.hol b=false
def Ground.hlt(G0:Ground P S V cd Z D){b:Nat}(h:Sh.hol b=true):b<D.w0.heap.size:=G0.oT b (Sh.Ln b h)
def Ground.hge(G0:Ground P S V cd Z D){b:Nat}(h:D.w0.heap.size<=b):Sh.hol b=false:=by
 cases hx:Sh.hol b with
 |false=>rfl
 |true=>have :=G0.hlt hx;omega
def Ground.below(G0:Ground P S V cd Z D){n b:Nat}(hn:D.w0.heap.size<=n)(h:Bd D.A n b=true∨Sh.hol b=true):b<n:=h.elim (λh=>(gH.1 h).2) λh=>aK (G0.hlt h) hn
def Ub(P:Program)(w0:World)(fT:Frame)(R:Value->World->Prop):Prop:=
 ∀τ,∃n v w' fr',R v w'∧runN P n (lone fT [cS.stk] (w0.tp τ))=.next (lone fr' [cS.stk] w')∧fr'.leaving P w' (.returned v)
def ahead{t n:Nat}{fr fr':Frame}{up:List Frame}{m0:Machine}{w w':World}{v:Value}(h1:runN P t m0=.next (lone fr (up++ [cS.stk]) w))(hn:¬Fin fr up)(h2:runN P n m0=.next (lone fr' [cS.stk] w'))(hl:fr'.leaving P w' (.returned v)):∃k,n=t+1+k:=by
 obtain⟨hm,hd,hk,fn,hf,_⟩:=hl;rcases bq t n with hlt|hge
 .exact⟨n-t-1,by omega⟩
 .exfalso;obtain⟨d,rfl⟩:=Nat.exists_eq_add_of_le hge;rw[lD,h2]at h1;dsimp only at h1;cases d with
  |zero=>
   simp only[runN]at h1;obtain⟨e1,e2,_⟩:=pg (Stepped.next.inj h1);refine hn ⟨?_,by rw[<-e1];exact hm,by rw[<-e1];exact hd⟩;have :=congrArg List.length e2;simp at this;exact this
  |succ d=>exact vw ⟨fn,hf⟩ hk hm hd w' d fr up w h1
def rF{own:Nat->Prop}{a b:World}{x:Nat}(h:own x):grow own a b x:=.inl h
def ab9{F:Fit}{f:Nat->Nat}{w W:World}{τ:Nat->Question->Nat}(h:WR F f w W):WR F f (w.tp τ) W:=⟨h.lt,h.blk⟩
def Ba.agree(G0:Ground P S V cd Z D){t:Nat}{s:St δ}(h:Ba P S V cd Z D fT t s){W1:World}(hr:dM Z s.own s.W W1)(N:Nat)(hN:s.w.heap.size<=N)
 {f1:Nat->Nat} (hf1:f1= λb=>if b<s.w.heap.size then s.f b else W1.heap.size+(b-s.w.heap.size)) {τ:Nat->Question->Nat} (Im:τ= λj q=>if j<s.w.drawn then s.w.tape j q else W1.tape (W1.drawn+(j-s.w.drawn)) q):
 Rn P f1∧Ag (FA S V cd (Bd D.A N)) f1 (s.w.tp τ) W1∧Ag (FA S V cd D.A) f1 (s.w.tp τ) W1∧(∀b,b<s.w.heap.size->f1 b=s.f b):=by
 have e1:∀b,b<s.w.heap.size->f1 b=s.f b:= λb hb=>by rw[hf1];exact aj hb
 have e2:∀b,s.w.heap.size<=b->f1 b=W1.heap.size+(b-s.w.heap.size):= λb hb=>by rw[hf1];exact aa (by omega)
 have hsz:=hr.size
 have blk:∀(F':Fit),F'.S=S->F'.V=V->F'.code=cd->(∀b,Bd D.A s.w.heap.size b=true->F'.A b=true)->(∀b,b<s.w.heap.size->F'.A b=true->D.A b=true)->WR F' f1 (s.w.tp τ) W1:=by
  intro F' hS hV hc hA hA';refine⟨λb hb G8=>?_, λb o hb ho=>?_⟩
  .have hb':b<s.w.heap.size:=hb;rw[e1 b hb'];have :=h.DY b hb' (G0.Uy b (hA' b hb' G8));omega
  .have ho':s.w.heap[b]?=some o:=ho
   have hlt:=(aI.1 ho').1;have ZQ:=hA' b hlt hb;have key:=h.wr.blk b o (gH.2 ⟨ZQ,hlt⟩) ho'
   have e:W1.heap[f1 b]?=s.W.heap[s.f b]?:=by
    rw[e1 b hlt];rcases h.img b hlt ZQ with x|x
    .exact hr.own _ x
    .exact hr.ro _ x
   rw[e];exact key.conv ⟨hS.symm,hV.symm⟩ hc.symm hA λb hb=>(e1 b (G0.below h.n0 hb)).symm
 have tape:∀j q,(s.w.tp τ).tape ((s.w.tp τ).drawn+j) q=W1.tape (W1.drawn+j) q:=by intro j q;show τ (s.w.drawn+j) q=_;simp only[Im];rw[aa (by omega),show s.w.drawn+j-s.w.drawn=j from by omega]
 have next :∀j,f1 ((s.w.tp τ).heap.size+j)=W1.heap.size+j:=by intro j;show f1 (s.w.heap.size+j)=_;rw[e2 _ (by omega)];omega
 have GV:∀b,s.w.heap.size<=b->Sh.lk b=false:= λb hb=>by
  cases hx:Sh.lk b with
  |false=>rfl
  |true=>have :=G0.oT b hx;have :=h.n0;omega
 refine⟨⟨λa b hla OS hab=>?_, λb hb=>?_,G0.gD,G0.ZN,G0.bad,G0.cc⟩,⟨blk _ rfl rfl rfl (Wq hN) (λb _ hb=>(gH.1 hb).1),tape,next,GV, λb hb=>G0.Uy b (gH.1 hb).1⟩,⟨blk _ rfl rfl rfl (λb hb=>(gH.1 hb).1) (λb _ hb=>hb),tape,next,GV,G0.Uy⟩,e1⟩
 .have hn0:=h.n0;have hW:=h.since.size
  have hsmall:∀b,b<D.w0.heap.size->Sh.hol b=false->f1 b=D.f0 b∧f1 b<D.W0.heap.size:= λb hb hh=>by rw[e1 b (by omega),h.fid b hb];exact⟨rfl,G0.XC b hb hh⟩
  have hbig:∀b,D.w0.heap.size<=b->D.W0.heap.size<=f1 b:= λb hb=>by
   rcases bq b s.w.heap.size with h1|h1
   .rw[e1 b h1];exact h.Wt b hb h1
   .rw[e2 b h1];omega
  have hmono:∀b c,D.w0.heap.size<=b->b<c->f1 b<f1 c:= λb c hb hbc=>by
   rcases bq c s.w.heap.size with h1|h1
   .rw[e1 c h1,e1 b (by omega)];exact h.Ez b c hb hbc h1
   .rw[e2 c h1];rcases bq b s.w.heap.size with h2|h2
    .rw[e1 b h2];have :=h.DY b h2 (G0.hge hb);omega
    .rw[e2 b h2];omega
  rcases bq a D.w0.heap.size with ha|ha
  .have k1:=hsmall a ha (LM hla);rcases bq b D.w0.heap.size with hb|hb
   .exact G0.bV a b ha hb hla OS (by rw[<-k1.1, <-(hsmall b hb OS).1,hab])
   .have :=hbig b hb;omega
  .rcases bq b D.w0.heap.size with hb|hb
   .have :=(hsmall b hb OS).2;have :=hbig a ha;omega
   .rcases Nat.lt_trichotomy a b with hlt|heq|hgt
    .have :=hmono a b ha hlt;omega
    .exact heq
    .have :=hmono b a hb hgt;omega
 .have :=G0.ja;have hb':b<D.w0.heap.size:=by omega
  rw[e1 b (aK hb' h.n0),h.fid b hb'];exact G0.xT b hb
def Inv.Wv(hQ:Alike P Q)(G0:Ground P S V cd Z D){t:Nat}{s:St δ}(h:Inv P Q S V cd main Z Stop D K fT t s)
 (am3:∀τ:Nat->Question->Nat,(∀j q,j<s.w.drawn->τ j q=s.w.tape j q)->∃k fr' w',(∀ch,fr'.mode≠ .panicking ch)∧runN P (t+1+k) (lone fT [cS.stk] (D.w0.tp τ))=.next (lone fr' [cS.stk] w')) (hn:¬Fin s.fr s.up):
 ∃s',(Inv P Q S V cd main Z Stop D K fT (t+1) s'∨SU P Q S V cd main Z Stop D K fT (t+1) s')∧s.w.drawn<=s'.w.drawn∧∀j q,j<s.w.drawn->s'.w.tape j q=s.w.tape j q:=by
 obtain⟨W1,hr,hno⟩:=Gw.not rfl h.mf;obtain⟨f1,hf1⟩:∃f1:Nat->Nat,f1= λb=>if b<s.w.heap.size then s.f b else W1.heap.size+(b-s.w.heap.size):=⟨_,rfl⟩
 obtain⟨τ,Im⟩:∃τ:Nat->Question->Nat,τ= λj q=>if j<s.w.drawn then s.w.tape j q else W1.tape (W1.drawn+(j-s.w.drawn)) q:=⟨_,rfl⟩
 have Od:∀j q,j<s.w.drawn->τ j q=s.w.tape j q:= λj q hj=>by rw[Im];exact aj hj
 obtain⟨N,ac0⟩:∃N,N=max s.w.heap.size (gw (stepG P true (G s.fr (s.up++ [cS.stk])) (s.w.tp τ))).heap.size:=⟨_,rfl⟩;have hN:s.w.heap.size<=N:=by omega
 obtain⟨xb,hag,Cp,e1⟩:=h.toBa.agree G0 hr N hN hf1 Im;have Uz:tQ P (FA S V cd (Bd D.A N)) s.fr s.up:=tQ.mono (F:=FA S V cd (Bd D.A s.w.heap.size)) (F':=FA S V cd (Bd D.A N)) ⟨rfl,rfl⟩ rfl (Wq hN) h.stk;have ac2:tQ P (FA S V cd D.A) s.fr s.up:=tQ.mono (F:=FA S V cd (Bd D.A s.w.heap.size)) (F':=FA S V cd D.A) ⟨rfl,rfl⟩ rfl (λb hb=>(gH.1 hb).1) h.stk;have hmode:s.fr.mode=.run∨s.fr.mode=.returning∧(s.up= []->s.fr.defers≠ []):=h.mode.imp id λhm=>⟨hm, λhu hd=>hn ⟨hu,hm,hd⟩⟩
 have JI:=Qo (cs:=[cS.stk]) (K:=K) hQ (G0.good _) xb hag true main Uz hmode;have hloc:=Qq (cs:=[cS.stk]) (f:=f1) (W:=W1) (w:=s.w.tp τ) (F:=FA S V cd D.A) (λb hb=>G0.af b (aS h.n0 hb)) (G0.good _) xb Cp true ac2 hmode;have hrun:=h.run τ Od;have Hi:ic f1 s.fr=ic s.f s.fr:=zF (F:=FA S V cd (Bd D.A s.w.heap.size)) (λb hb=>e1 b (G0.below h.n0 hb)) h.stk.top;have eup:s.up.map (ic f1)=s.up.map (ic s.f):=Qt (F:=FA S V cd (Bd D.A s.w.heap.size)) (λb hb=>e1 b (G0.below h.n0 hb)) h.stk;rw[Hi,eup]at JI;obtain⟨k,fr',w',hlv,hend⟩:=am3 τ Od;have hnext:runN P (t+1) (lone fT [cS.stk] (D.w0.tp τ))=step P (lone s.fr (s.up++ [cS.stk]) (s.w.tp τ)):=by rw[rE,hrun]
 rw[lD,hnext]at hend;rcases JI with⟨b,b1,b2,b3⟩|JI
 .exfalso;have b1':s.w.heap.size<=b:=b1;have:Bd D.A N b=true:=gH.2 ⟨G0.af b (aS h.n0 b1'),by omega⟩;rw[show(FA S V cd (Bd D.A N)).A b=Bd D.A N b from rfl,this]at b3;cases b3
 .generalize hs:stepG P true (G s.fr (s.up++ [cS.stk])) (s.w.tp τ)=sS at JI;cases sS with
  |ended o w1 es=>
   exfalso;rw[pq hs]at hend;cases hend
  |go g w1 es=>
   rcases JI with hps|⟨qh,wR,X,qm,es',rfl,h1,h2,hX,h3,h4,h5⟩
   .exfalso;have am4:=hps;obtain⟨Qv,bj,ch,rfl,_⟩:=am4;rw[vv hs]at hend;exact Ey (P:=P) k hps fr' w' hlv hend
   .have am5:N=w1.heap.size:=by
     rw[ac0,hs];obtain⟨k,hk,_⟩:=h4.size;have hk':w1.heap.size=s.w.heap.size+k:=hk;show max s.w.heap.size w1.heap.size=w1.heap.size;omega
    subst am5;obtain⟨kk,hk1,hk2⟩:=h4.size;have hk1:w1.heap.size=s.w.heap.size+kk:=hk1;have hWs:=hr.size
    have hnp:¬Panics (G qh (wR++ [cS.stk])):=by rintro⟨ch,hc⟩;have hc:qh.mode=.panicking ch:=hc;rcases h2 with h2|h2<;>(rw[h2]at hc;cases hc)
    obtain⟨hd,hlc⟩:=hloc _ _ _ hs hnp;have hd:s.w.drawn<=w1.drawn:=hd;have Qw:w1.tape=τ:=h4.tape;have e2:∀b,s.w.heap.size<=b->f1 b=W1.heap.size+(b-s.w.heap.size):= λb hb=>by rw[hf1];exact aa (by omega)
    have am6:D.W0.heap.size<=s.W.heap.size:=h.since.size
    have hown:∀b,b<w1.heap.size->D.A b=true->grow s.own W1 qm (f1 b)∨Z.ro (f1 b):=by
     intro b hb hA;rcases bq b s.w.heap.size with hlt|hge
     .rw[e1 b hlt];exact(h.img b hlt hA).imp rF id
     .refine .inl (.inr ?_);rw[e2 b hge];omega
    have hlk:∀(b:Nat)(o:Obj),D.A b=true->w1.heap[b]?=some o->¬iZ o->grow s.own W1 qm (f1 b)∧¬D.L (f1 b):=by
     intro b o hA ho hl;rcases bq b s.w.heap.size with hlt|hge
     .have hx:(s.w.tp τ).heap[b]?=some s.w.heap[b]:=by show s.w.heap[b]?=_;simp[hlt]
      obtain⟨o1,ho1,hl1,_⟩:=h4.lock b _ hx;rw[ho1]at ho;cases ho;rw[e1 b hlt];have :=h.lk b _ hA hx λy=>hl (hl1.2 y)
      exact⟨rF this.1,this.2⟩
     .have hb:=(aI.1 ho).1;rw[e2 b hge];refine⟨.inr ?_, λx=>?_⟩
      .omega
      .have :=(G0.lL _ x).1;omega
    have XD:∀b,grow s.own W1 qm b->D.dR b∨D.W0.heap.size<=b:=by
     intro b hb;rcases hb with hb|hb
     .exact h.PM b hb
     .exact .inr (by omega)
    have XE:∀b,grow s.own W1 qm b->b<qm.heap.size:=by
     intro b hb;rcases hb with hb|hb
     .have :=h.Wu b hb;omega
     .exact hb.2
    have hkeep:∀b,b<W1.heap.size->¬s.own b->qm.heap[b]?=W1.heap[b]?:=by
     intro b hb hno;rcases h4.frame b hb with e|⟨b',o,hA,ho,XF,hl⟩
     .exact e
     .exfalso;have ho':s.w.heap[b']?=some o:=ho
      have hlt:=(aI.1 ho').1;have :=(h.lk b' o (gH.1 hA).1 ho' hl).1;rw[<-XF,e1 b' hlt]at hno;exact hno this
    have hkept:∀b,D.L b->qm.heap[b]?=D.W0.heap[b]?:=by
     intro b hb;have hbL:=G0.lL b hb
     have k1:qm.heap[b]?=W1.heap[b]?:=by
      rcases h4.frame b (by omega)with e|⟨b',o,hA,ho,XF,hl⟩
      .exact e
      .exfalso;have ho':s.w.heap[b']?=some o:=ho
       have hlt:=(aI.1 ho').1;have :=(h.lk b' o (gH.1 hA).1 ho' hl).2;rw[<-XF,e1 b' hlt]at hb;exact this hb
     rw[k1, <-h.kept b hb];rcases hbL.2 with x|x
     .exact hr.ro b x
     .exact hr.own b (h.owns b x)
    have Uc:∀b,Z.sy b->¬s.own b:=by
     intro b hb ho;rcases h.PM b ho with x|x
     .exact(G0.own b x).2.1 hb
     .have :=G0.sy b hb;omega
    have cj:∀b,Z.ro b->¬s.own b:=by
     intro b hb ho;rcases h.PM b ho with x|x
     .exact(G0.own b x).2.2 hb
     .have :=G0.ro b hb;omega
    have mH:qK Z s.own W1 qm:=by refine⟨h4.tape',h4.out',h4.os',by omega, λb hb hno _=>hkeep b hb hno, λb hb=>?_⟩;have hbl:=G0.sy b hb;have e:=hkeep b (by omega) (Uc b hb);refine⟨by rw[e];exact tV.refl _, λi _=>?_⟩;unfold World.cell?;simp only[e]
    have hev:∀e∈es',NY Z (grow s.own W1 qm) e:=by
     obtain⟨u,hu1,hu2,hu3⟩:=h5;intro e he;rw[hu2]at he;simp only[Array.empty_append,Array.mem_map]at he;obtain⟨e0,he0,rfl⟩:=he;have hx:=hu3 e0 he0;obtain⟨loc,wr,sy⟩:=e0;obtain⟨hx1,hx2⟩:=hx;refine⟨G0.nm,?_⟩;cases loc with
     |cell a=>
      obtain⟨hA,⟨v,hv⟩,hw⟩:=hx2
      have vW:∃o:Obj,w1.heap[a.block]?=some o:=by
       unfold World.cell? at hv;cases hb:w1.heap[a.block]? with
       |none=>rw[hb]at hv;cases hv
       |some o=>exact⟨o,rfl⟩
      obtain⟨o,ho⟩:=vW;have hlt:=(aI.1 ho).1;have hA':=(gH.1 hA).1;refine⟨hx1,?_⟩;cases wr with
      |true=>
       obtain⟨o',ho',hl'⟩:=hw rfl;exact .inl (hlk _ o' hA' ho' hl').1
      |false=>
       rcases hown _ hlt hA' with x|x
       .exact .inl x
       .exact .inr (.inl ⟨x,rfl⟩)
     |obj r=>
      obtain⟨hA,o,ho,hc⟩:=hx2;have hA':=(gH.1 hA).1;refine⟨hx1,(hlk _ o hA' ho ?_).1⟩;rintro⟨c,e,fr,rfl,_⟩;cases hc
     |mark m=>
      have hm:m=.noRoom:=hx2;subst hm;rfl
     |output=>exact hx2.elim
     |goroutines=>exact hx2.elim
    have inv0:Ba P S V cd Z D fT (t+1) (⟨qh,wR,w1,f1,grow s.own W1 qm,qm,s.d⟩:St δ):=by
     refine⟨h1,h2,h4.ag.wr,by show _<=w1.heap.size;have :=h.n0;omega, λb hb=>?_, λb hb hh=>?_, λb hb hb2=>?_, λb c hb0 hbc hc=>?_,hown,hlk, λb hb=>rF (h.owns b hb),XD,XE,?_,hkept, λcV UA=>?_⟩
     .show f1 b=D.f0 b;rw[e1 b (aK hb h.n0)];exact h.fid b hb
     .show f1 b<qm.heap.size;have hb:b<w1.heap.size:=hb;rcases bq b s.w.heap.size with hlt|hge
      .rw[e1 b hlt];have :=h.DY b hlt hh;omega
      .rw[e2 b hge];omega
     .show D.W0.heap.size<=f1 b;rcases bq b s.w.heap.size with hlt|hge
      .rw[e1 b hlt];exact h.Wt b hb hlt
      .rw[e2 b hge];omega
     .show f1 b<f1 c;have hc:c<w1.heap.size:=hc;rcases bq c s.w.heap.size with hlt|hge
      .rw[e1 c hlt,e1 b (by omega)];exact h.Ez b c hb0 hbc hlt
      .rw[e2 c hge];rcases bq b s.w.heap.size with hlt2|UB
       .rw[e1 b hlt2];have :=h.DY b hlt2 (G0.hge hb0);omega
       .rw[e2 b UB];omega
     .refine h.since.trans (hr.since.trans ⟨h4.tape',h4.out',by rw[h4.os'];exact OsLater.refl _,(by show W1.heap.size<=qm.heap.size;omega), λb hb=>hkeep b (by have :=G0.ro b hb;omega) (cj b hb), λb hb=>?_, λb i hb=>?_⟩)
      .rw[hkeep b (by have :=G0.sy b hb;omega) (Uc b hb)];exact tV.refl _
      .have hsy:=G0.cl b i hb;have e:=hkeep b (by have :=G0.sy b hsy;omega) (Uc b hsy);unfold World.cell?;simp only[e]
     .have UA:∀j q,j<w1.drawn->cV j q=w1.tape j q:=UA
      have ag0:∀j q,j<s.w.drawn->cV j q=s.w.tape j q:= λj q hj=>by rw[UA j q (by omega),Qw,Od j q hj]
      show runN P (t+1) _=.next (lone qh (wR++ [cS.stk]) (w1.tp cV))
      rw[rE,h.run cV ag0];have hl:=hlc cV (λj q _ h2=>by rw[UA j q h2,Qw];rfl);exact vv hl
    refine⟨⟨qh,wR,w1,f1,grow s.own W1 qm,qm,s.d⟩,?_,hd, λj q hj=>by show w1.tape j q=_;rw[Qw,Od j q hj]⟩;have hgo:=hno _ _ _ h3 mH hev;rcases hX with hX|⟨g,aS,hg,has,hv,hup,hfr,hX⟩<;>subst hX
    .exact .inl ⟨inv0,hgo⟩
    .by_cases hsame:Q.funcs[g]?=P.funcs[g]?
     .refine .inl ⟨inv0,?_⟩
      have e:Frame.enter Q g (aS.map (rv f1)) .normal=ic f1 qh:=by rw[hfr];rw[<-zA (F:=FA S V cd D.A) (G0.good _) hg aS];unfold Frame.enter;rw[hsame]
      show¬Gw Q main Z (Stop s.d) _ (G (ic f1 qh) _) _;rw[<-e];exact hgo
     .exact .inr ⟨inv0,g,aS,hg,hv,hup,hfr,hsame,hgo⟩
  |_=>exact JI.elim
def Inv.next(hQ:Alike P Q)(G0:Ground P S V cd Z D)(kS:Ub P D.w0 fT R){t:Nat}{s:St δ}(h:Inv P Q S V cd main Z Stop D K fT t s)(hn:¬Fin s.fr s.up):
 ∃s',(Inv P Q S V cd main Z Stop D K fT (t+1) s'∨SU P Q S V cd main Z Stop D K fT (t+1) s')∧s.w.drawn<=s'.w.drawn∧∀j q,j<s.w.drawn->s'.w.tape j q=s.w.tape j q:=
 h.Wv hQ G0 (λτ Im=>by obtain⟨n,v,w',fr',h1,h2,h3⟩:=kS τ;obtain⟨k,rfl⟩:=ahead (h.run τ Im) hn h2 h3;exact⟨k,fr',w',⟨λch e=>(by rw[h3.1]at e;cases e),h2⟩⟩) hn
end
end
section
variable [Sh]
structure FH(S V:FuncId->Bool)(cd:Code->Bool)(Z:fO)(D:Oc)(v:Value)(w':World)(f':Nat->Nat)(dD:Nat->Prop)(W':World):Prop where
 wr:WR (FA S V cd (Bd D.A w'.heap.size)) f' w' W'
 val:vs (FA S V cd (Bd D.A w'.heap.size)) v=true
 n0:D.w0.heap.size<=w'.heap.size
 fid:∀b,b<D.w0.heap.size->f' b=D.f0 b
 DY:∀b,b<w'.heap.size->Sh.hol b=false->f' b<W'.heap.size
 Wt:∀b,D.w0.heap.size<=b->b<w'.heap.size->D.W0.heap.size<=f' b
 Ez:∀b c,D.w0.heap.size<=b->b<c->c<w'.heap.size->f' b<f' c
 img:∀b,b<w'.heap.size->D.A b=true->dD (f' b)∨Z.ro (f' b)
 lk:∀(b:Nat)(o:Obj),D.A b=true->w'.heap[b]?=some o->¬iZ o->dD (f' b)∧¬D.L (f' b)
 owns:∀b,D.dR b->dD b
 PM:∀b,dD b->D.dR b∨D.W0.heap.size<=b
 Wu:∀b,dD b->b<W'.heap.size
 since:Since Z D.W0 W'
 kept:∀b,D.L b->W'.heap[b]?=D.W0.heap[b]?
section
variable {P Q:Program} {S V:FuncId->Bool} {cd:Code->Bool} {main:Bool} {Z:fO} {δ:Type} {Stop:δ->(Nat->Prop)->Goroutine->World->Prop} {D:Oc} {K:List Frame} {fT:Frame} {R:Value->World->Prop}
def XG(hnm:¬Z.mute){A:Nat->Bool}{N:Nat}{f:Nat->Nat}{w1:World}{dD:Nat->Prop}(hown:∀b,b<w1.heap.size->A b=true->dD (f b)∨Z.ro (f b))(hlk:∀(b:Nat)(o:Obj),A b=true->w1.heap[b]?=some o->¬iZ o->dD (f b))
 {e:Event} (hx:Wl (FA S V cd (Bd A N)) w1 e):NY Z dD (rev f e):=by
 obtain⟨loc,wr,sy⟩:=e;obtain⟨hx1,hx2⟩:=hx;refine⟨hnm,?_⟩;cases loc with
 |cell a=>
  obtain⟨hA,⟨v,hv⟩,hw⟩:=hx2
  have vW:∃o:Obj,w1.heap[a.block]?=some o:=by
   unfold World.cell? at hv;cases hb:w1.heap[a.block]? with
   |none=>rw[hb]at hv;cases hv
   |some o=>exact⟨o,rfl⟩
  obtain⟨o,ho⟩:=vW;have hlt:=(aI.1 ho).1;have hA':=(gH.1 hA).1;refine⟨hx1,?_⟩;cases wr with
  |true=>
   obtain⟨o',ho',hl'⟩:=hw rfl;exact .inl (hlk _ o' hA' ho' hl')
  |false=>
   rcases hown _ hlt hA' with x|x
   .exact .inl x
   .exact .inr (.inl ⟨x,rfl⟩)
 |obj r=>
  obtain⟨hA,o,ho,hc⟩:=hx2;have hA':=(gH.1 hA).1;refine⟨hx1,hlk _ o hA' ho ?_⟩;rintro⟨c,e,fr,rfl,_⟩;cases hc
 |mark m=>
  have hm:m=.noRoom:=hx2;subst hm;rfl
 |output=>exact hx2.elim
 |goroutines=>exact hx2.elim
def Ba.fin(G0:Ground P S V cd Z D)(kS:Ub P D.w0 fT R){t:Nat}{s:St δ}(h:Ba P S V cd Z D fT t s)(hf:Fin s.fr s.up){τ:Nat->Question->Nat}(Im:∀j q,j<s.w.drawn->τ j q=s.w.tape j q):
 ∃v,R v (s.w.tp τ)∧s.fr.leaving P (s.w.tp τ) (.returned v):=by
 obtain⟨n,v,w',fr',h1,h2,h3⟩:=kS τ;have hrun:=h.run τ Im;obtain⟨hu,hm,hd⟩:=hf;rw[hu,List.nil_append]at hrun;have hfr:=h.stk.top;obtain⟨fn,c,hfn,_⟩:=(G0.good _).fit.body s.fr.fn hfr.fn;rcases Nat.lt_trichotomy n t with hlt|heq|hgt
 .exfalso;obtain⟨d,hd'⟩:=Nat.exists_eq_add_of_lt hlt;obtain⟨hm',hd2,hk',fn',hf',_⟩:=h3;rw[hd',show n+d+1=n+(d+1)from rfl,lD,h2]at hrun;exact vw ⟨fn',hf'⟩ hk' hm' hd2 w' d s.fr [] _ hrun
 .subst heq;rw[hrun]at h2;obtain⟨e1,_,e3⟩:=pg (Stepped.next.inj h2);rw[<-e1, <-e3]at h3;rw[<-e3]at h1;exact⟨v,h1,h3⟩
 .exfalso;obtain⟨d,hd'⟩:=Nat.exists_eq_add_of_lt hgt;rw[hd',show t+d+1=t+(d+1)from rfl,lD,hrun]at h2;exact vw ⟨fn,hfn⟩ hfr.kind hm hd _ d fr' [] w' h2
def Ba.leave(hQ:Alike P Q)(G0:Ground P S V cd Z D)(kS:Ub P D.w0 fT R){t:Nat}{s:St δ}(h:Ba P S V cd Z D fT t s)(hf:Fin s.fr s.up){W1:World}(hr:dM Z s.own s.W W1):
 ∃v w1 f1 qm u fn,R v w1∧Q.funcs[s.fr.fn]?=some fn∧(results fn (ic s.f s.fr).tmps).runT Q W1 #[]=(.ok (rv f1 v) qm,u)∧qm.heap.size=W1.heap.size∧qK Z s.own W1 qm∧(∀e∈seen Q s.fr.fn u++ #[],NY Z (grow s.own W1 qm) e)∧
  FH S V cd Z D v w1 f1 (grow s.own W1 qm) qm:=by
 obtain⟨f1,hf1⟩:∃f1:Nat->Nat,f1= λb=>if b<s.w.heap.size then s.f b else W1.heap.size+(b-s.w.heap.size):=⟨_,rfl⟩
 obtain⟨τ,Im⟩:∃τ:Nat->Question->Nat,τ= λj q=>if j<s.w.drawn then s.w.tape j q else W1.tape (W1.drawn+(j-s.w.drawn)) q:=⟨_,rfl⟩
 have Od:∀j q,j<s.w.drawn->τ j q=s.w.tape j q:= λj q hj=>by rw[Im];exact aj hj
 obtain⟨xb,hag,Cp,e1⟩:=h.agree G0 hr s.w.heap.size (aJ _) hf1 Im;obtain⟨v,hR,hlv⟩:=h.fin G0 kS hf Od;have hfr:=h.stk.top;obtain⟨_,_,_,fn,hfn,hres⟩:=hlv;have ej:((results fn s.fr.tmps).runT P (s.w.tp τ) #[]).1=.ok v (s.w.tp τ):=by rw[Sem.runT_fst];exact hres
 have JI:=(wT (P:=P) (F:=FA S V cd (Bd D.A s.w.heap.size)) (f:=f1) xb fn hfr.tmps).BI hQ xb.inj (s.w.tp τ) W1 #[] #[] hag;rcases JI with⟨b,b1,b2,_⟩|JI
 .exfalso;rw[ej]at b2;have b1:s.w.heap.size<=b:=b1;have b2:b<s.w.heap.size:=b2;omega
 generalize hx:(results fn s.fr.tmps).runT P (s.w.tp τ) #[]=x at ej JI;generalize hy:(results fn (s.fr.tmps.map (rv f1))).runT Q W1 #[]=y at JI;obtain⟨hh,hq1,hq2⟩:=hQ.get s.fr.fn;obtain⟨bb,hq3,_⟩:=hq2 fn;have Qx:Q.funcs[s.fr.fn]?=some { fn with body:=bb }:=by rw[hq1,hfn,ay,hq3]
 rw[ej]at JI;obtain⟨v',qm,hy1,⟨hv',hvs⟩,h4,h5⟩:=JI;have Hi:ic f1 s.fr=ic s.f s.fr:=zF (F:=FA S V cd (Bd D.A s.w.heap.size)) (λb hb=>e1 b (G0.below h.n0 hb)) hfr;obtain⟨w1,hw1⟩:∃w1,w1=s.w.tp τ:=⟨_,rfl⟩;have h4:Mv (FA S V cd (Bd D.A s.w.heap.size)) f1 (s.w.tp τ) W1 w1 qm:=by rw[hw1];exact h4
 rw[<-hw1]at h5 hR;have XH:w1.heap.size=s.w.heap.size:=by rw[hw1];rfl
 obtain⟨kk,hk1,hk2⟩:=h4.size;have hWs:=hr.size;have e2:∀b,s.w.heap.size<=b->f1 b=W1.heap.size+(b-s.w.heap.size):= λb hb=>by rw[hf1];exact aa (by omega)
 have am6:D.W0.heap.size<=s.W.heap.size:=h.since.size
 have hown:∀b,b<w1.heap.size->D.A b=true->grow s.own W1 qm (f1 b)∨Z.ro (f1 b):=by
  intro b hb hA;rcases bq b s.w.heap.size with hlt|hge
  .rw[e1 b hlt];exact(h.img b hlt hA).imp rF id
  .refine .inl (.inr ?_);rw[e2 b hge];omega
 have hlk:∀(b:Nat)(o:Obj),D.A b=true->w1.heap[b]?=some o->¬iZ o->grow s.own W1 qm (f1 b)∧¬D.L (f1 b):=by
  intro b o hA ho hl;have hb:=(aI.1 ho).1;have hlt:b<s.w.heap.size:=by omega
  have hx:(s.w.tp τ).heap[b]?=some s.w.heap[b]:=by show s.w.heap[b]?=_;simp[hlt]
  obtain⟨o1,ho1,hl1,_⟩:=h4.lock b _ hx;rw[ho1]at ho;cases ho;rw[e1 b hlt];have :=h.lk b _ hA hx λy=>hl (hl1.2 y)
  exact⟨rF this.1,this.2⟩
 have XD:∀b,grow s.own W1 qm b->D.dR b∨D.W0.heap.size<=b:=by
  intro b hb;rcases hb with hb|hb
  .exact h.PM b hb
  .exact .inr (by omega)
 have XE:∀b,grow s.own W1 qm b->b<qm.heap.size:=by
  intro b hb;rcases hb with hb|hb
  .have :=h.Wu b hb;omega
  .exact hb.2
 have hkeep:∀b,b<W1.heap.size->¬s.own b->qm.heap[b]?=W1.heap[b]?:=by
  intro b hb hno;rcases h4.frame b hb with e|⟨b',o,hA,ho,XF,hl⟩
  .exact e
  .exfalso;have ho':s.w.heap[b']?=some o:=ho
   have hlt:=(aI.1 ho').1;have :=(h.lk b' o (gH.1 hA).1 ho' hl).1;rw[<-XF,e1 b' hlt]at hno;exact hno this
 have hkept:∀b,D.L b->qm.heap[b]?=D.W0.heap[b]?:=by
  intro b hb;have hbL:=G0.lL b hb
  have k1:qm.heap[b]?=W1.heap[b]?:=by
   rcases h4.frame b (by omega)with e|⟨b',o,hA,ho,XF,hl⟩
   .exact e
   .exfalso;have ho':s.w.heap[b']?=some o:=ho
    have hlt:=(aI.1 ho').1;have :=(h.lk b' o (gH.1 hA).1 ho' hl).2;rw[<-XF,e1 b' hlt]at hb;exact this hb
  rw[k1, <-h.kept b hb];rcases hbL.2 with x|x
  .exact hr.ro b x
  .exact hr.own b (h.owns b x)
 have Uc:∀b,Z.sy b->¬s.own b:=by
  intro b hb ho;rcases h.PM b ho with x|x
  .exact(G0.own b x).2.1 hb
  .have :=G0.sy b hb;omega
 have cj:∀b,Z.ro b->¬s.own b:=by
  intro b hb ho;rcases h.PM b ho with x|x
  .exact(G0.own b x).2.2 hb
  .have :=G0.ro b hb;omega
 have mH:qK Z s.own W1 qm:=by refine⟨h4.tape',h4.out',h4.os',by omega, λb hb hno _=>hkeep b hb hno, λb hb=>?_⟩;have hbl:=G0.sy b hb;have e:=hkeep b (by omega) (Uc b hb);refine⟨by rw[e];exact tV.refl _, λi _=>?_⟩;unfold World.cell?;simp only[e]
 have hev:∀e∈seen Q s.fr.fn y.2++ #[],NY Z (grow s.own W1 qm) e:=by obtain⟨u,hu1,hu2,hu3⟩:=h5;intro e he;rw[Array.append_empty]at he;have he:=mem_seen he;rw[hu2]at he;simp only[Array.empty_append,Array.mem_map]at he;obtain⟨e0,he0,rfl⟩:=he;exact XG G0.nm hown (λb o h1 h2 h3=>(hlk b o h1 h2 h3).1) (hu3 e0 he0)
 refine⟨v,w1,f1,qm,y.2,_,hR,Qx,?_,by have e9:(s.w.tp τ).heap.size=s.w.heap.size:=rfl;omega,mH,hev,?_⟩
 .have m4:(ic f1 s.fr).tmps=s.fr.tmps.map (rv f1):=rfl;have hy':(results { fn with body:=bb } (s.fr.tmps.map (rv f1))).runT Q W1 #[]=y:=hy;rw[<-Hi,m4,hy', <-hv', <-hy1]
 refine⟨?_,?_,by rw[XH];exact h.n0, λb hb=>?_, λb hb hh=>?_, λb hb hb2=>?_, λb c hb0 hbc hc=>?_,hown,hlk, λb hb=>rF (h.owns b hb),XD,XE,?_,hkept⟩
 .rw[XH];exact h4.ag.wr
 .rw[XH];exact hvs
 .rw[e1 b (aK hb h.n0)];exact h.fid b hb
 .rw[e1 b (by omega)];have :=h.DY b (by omega) hh;omega
 .rw[e1 b (by omega)];exact h.Wt b hb (by omega)
 .rw[e1 c (by omega),e1 b (by omega)];exact h.Ez b c hb0 hbc (by omega)
 .refine h.since.trans (hr.since.trans ⟨h4.tape',h4.out',by rw[h4.os'];exact OsLater.refl _,by omega, λb hb=>hkeep b (by have :=G0.ro b hb;omega) (cj b hb), λb hb=>?_, λb i hb=>?_⟩)
  .rw[hkeep b (by have :=G0.sy b hb;omega) (Uc b hb)];exact tV.refl _
  .have hsy:=G0.cl b i hb;have e:=hkeep b (by have :=G0.sy b hsy;omega) (Uc b hsy);unfold World.cell?;simp only[e]
def Inv.back(hQ:Alike P Q)(G0:Ground P S V cd Z D)(kS:Ub P D.w0 fT R){t:Nat}{s:St δ}{c:Frame}{K':List Frame}(h:Inv P Q S V cd main Z Stop D (c::K') fT t s)(hf:Fin s.fr s.up)
 (lU:∀d v w' f' dD W',R v w'->FH S V cd Z D v w' f' dD W'->Gw Q main Z (Stop d) dD (G (c.finish (rv f' v)) K') W'):False:=by
 refine h.mf (Gw.xY rfl λW1 hr=>?_);obtain⟨v,w1,f1,qm,u,fn,hR,Qx,hres,hsz,mH,hev,hback⟩:=h.toBa.leave hQ G0 kS hf hr;obtain⟨hu,hm,hd⟩:=hf;have hfr:=h.stk.top
 have hcomp:stepG Q main (G (ic s.f s.fr) (s.up.map (ic s.f)++c::K')) W1=.go (G (c.finish (rv f1 v)) K') qm (seen Q s.fr.fn u++ #[]):=by
  rw[hu];have m1:(ic s.f s.fr).mode=.returning:=hm;have m2:(ic s.f s.fr).defers= []:=by show s.fr.defers.map (rd s.f)= [];rw[hd];rfl
  have m3:(ic s.f s.fr).fn=s.fr.fn:=rfl;have m5:(ic s.f s.fr).kind=.normal:=hfr.kind;unfold stepG G;simp only[m1];unfold unwind;simp only[m1,m2,m3,Qx,List.map_nil,List.nil_append];rw[hres];unfold doReturn;simp only[m5];rfl
 exact⟨_,_,_,hcomp,mH,hev,lU s.d v w1 f1 _ qm hR hback⟩
end
end
section
variable [Sh]
section
variable {P Q:Program} {S V:FuncId->Bool} {cd:Code->Bool} {main:Bool} {Z:fO} {δ:Type} {Stop:δ->(Nat->Prop)->Goroutine->World->Prop} {D:Oc} {K:List Frame} {fT:Frame} {R:Value->World->Prop}
def Past(P Q:Program)(S V:FuncId->Bool)(cd:Code->Bool)(main:Bool)(Z:fO){δ:Type}(Stop:δ->(Nat->Prop)->Goroutine->World->Prop)(D:Oc)(K:List Frame)(fT:Frame):Prop:=
 ∀t s,SU P Q S V cd main Z Stop D K fT t s->∃k s',Inv P Q S V cd main Z Stop D K fT (t+k+1) s'∧s.w.drawn<=s'.w.drawn∧∀j q,j<s.w.drawn->s'.w.tape j q=s.w.tape j q
def fj(hQ:Alike P Q)(G0:Ground P S V cd Z D)(kS:Ub P D.w0 fT R){s0:St δ}(h0:Inv P Q S V cd main Z Stop D K fT 0 s0)(hpast:Past P Q S V cd main Z Stop D K fT)
 (nf:∀{t s},Inv P Q S V cd main Z Stop D K fT t s->¬Fin s.fr s.up):False:=by
 classical
 have nx:∀(x:{ p:Nat×St δ// Inv P Q S V cd main Z Stop D K fT p.1 p.2 }),∃y:{ p:Nat×St δ// Inv P Q S V cd main Z Stop D K fT p.1 p.2 },x.1.1<y.1.1∧x.1.2.w.drawn<=y.1.2.w.drawn∧∀j q,j<x.1.2.w.drawn->y.1.2.w.tape j q=x.1.2.w.tape j q:=by
  rintro⟨⟨t,s⟩,h⟩;obtain⟨s',h1,h2,h3⟩:=h.next hQ G0 kS (nf h);rcases h1 with h1|h1
  .exact⟨⟨(t+1,s'),h1⟩,Nat.lt_succ_self t,h2,h3⟩
  .obtain⟨k,s'',h4,h5,h6⟩:=hpast _ _ h1;exact⟨⟨(t+1+k+1,s''),h4⟩,by show t<t+1+k+1;omega,aS h2 h5, λj q hj=>(h6 j q (aK hj h2)).trans (h3 j q hj)⟩
 let seq:(i:Nat)->{ p:Nat×St δ// Inv P Q S V cd main Z Stop D K fT p.1 p.2 }:= λi=>Nat.rec ⟨(0,s0),h0⟩ (λ_ x=>(nx x).choose) i
 have hlt:∀i,(seq i).1.1<(seq (i+1)).1.1:= λi=>(nx (seq i)).choose_spec.1
 have hd:∀i,(seq i).1.2.w.drawn<=(seq (i+1)).1.2.w.drawn:= λi=>(nx (seq i)).choose_spec.2.1
 have ht:∀i j q,j<(seq i).1.2.w.drawn->(seq (i+1)).1.2.w.tape j q=(seq i).1.2.w.tape j q:= λi=>(nx (seq i)).choose_spec.2.2
 have hge:∀i,i<=(seq i).1.1:=by
  intro i
  induction i with
  |zero=>exact bg _
  |succ i ih=>have :=hlt i;omega
 have hdd:∀d t,(seq t).1.2.w.drawn<=(seq (t+d)).1.2.w.drawn:=by
  intro d
  induction d with
  |zero=>intro t;exact aJ _
  |succ d ih=>intro t;exact aS (ih t) (hd (t+d))
 have yb:∀d t j q,j<(seq t).1.2.w.drawn->(seq (t+d)).1.2.w.tape j q=(seq t).1.2.w.tape j q:=by
  intro d
  induction d with
  |zero=>intro t j q _;rfl
  |succ d ih=>
   intro t j q hj;exact(ht (t+d) j q (aK hj (hdd d t))).trans (ih t j q hj)
 let τ:Nat->Question->Nat:= λj q=>if h:∃t,j<(seq t).1.2.w.drawn then(seq h.choose).1.2.w.tape j q else 0
 have Im:∀t j q,j<(seq t).1.2.w.drawn->τ j q=(seq t).1.2.w.tape j q:=by
  intro t j q hj;have h:∃t,j<(seq t).1.2.w.drawn:=⟨t,hj⟩;have e:τ j q=(seq h.choose).1.2.w.tape j q:=dif_pos h;rw[e];have hc:=h.choose_spec;generalize h.choose=u at hc;rcases Nat.le_total t u with hle|hle
  .obtain⟨d,rfl⟩:=Nat.exists_eq_add_of_le hle;exact yb d t j q hj
  .obtain⟨d,rfl⟩:=Nat.exists_eq_add_of_le hle;exact(yb d u j q hc).symm
 obtain⟨n,v,w',fr',h1,h2,h3⟩:=kS τ;have hrun:=(seq n).2.run τ λj q hj=>Im n j q hj
 obtain⟨k,hk⟩:=ahead hrun (nf (seq n).2) h2 h3;have :=hge n;omega
def EA(hQ:Alike P Q)(G0:Ground P S V cd Z D){g:FuncId}(hg:S g=true)(XI:Q.funcs[g]?=P.funcs[g]?){args args':Array Value}(ha:VS (FA S V cd (Bd D.A D.w0.heap.size)) args)(XJ:args'=args.map (rv D.f0))
 (hwr:WR (FA S V cd (Bd D.A D.w0.heap.size)) D.f0 D.w0 D.W0) (hlk:∀(b:Nat)(o:Obj),D.A b=true->D.w0.heap[b]?=some o->¬iZ o->D.dR (D.f0 b)∧¬D.L (D.f0 b))
 (kS:∀τ,Calls P g args (D.w0.tp τ) λe w'=>∃v,e=.returned v∧R v w') (d0:δ)
 (hpast:Past P Q S V cd main Z Stop D K (Frame.enter P g args .normal))
 (hend:Ub P D.w0 (Frame.enter P g args .normal) R->∀{t s},Inv P Q S V cd main Z Stop D K (Frame.enter P g args .normal) t s->¬Fin s.fr s.up):
 Gw Q main Z (Stop d0) D.dR (G (Frame.enter Q g args' .normal) K) D.W0:=by
 apply bn;intro hn
 have ZP:ic D.f0 (Frame.enter P g args .normal)=Frame.enter Q g args' .normal:=by have :=zA (P:=P) (F:=FA S V cd (Bd D.A D.w0.heap.size)) (f:=D.f0) (G0.good _) hg args;rw[<-this,XJ];unfold Frame.enter;rw[XI]
 have hc:Ub P D.w0 (Frame.enter P g args .normal) R:= λτ=>by obtain⟨e,w',fr,⟨v,rfl,h1⟩,⟨n,h2⟩,_,h3⟩:=kS τ [cS.stk];exact⟨n,v,w',fr,h1,h2,h3⟩
 refine fj (main:=main) (Stop:=Stop) (R:=R) (fT:=Frame.enter P g args .normal) (s0:=⟨Frame.enter P g args .normal,[],D.w0,D.f0,D.dR,D.W0,d0⟩) hQ G0 hc
  ⟨⟨⟨jM.enter (G0.good _) hg ha,rfl⟩,.inl rfl,hwr,aJ _, λb _=>rfl,G0.XC, λb h1 h2=>absurd h1 (Nat.not_le.2 h2), λb c h1 h2 h3=>absurd h1 (Nat.not_le.2 (Nat.lt_trans h2 h3)),G0.a0,hlk, λb hb=>hb, λb hb=>.inl hb, λb hb=>(G0.own b hb).1,Since.refl Z D.W0, λb _=>rfl, λτ _=>rfl⟩,?_⟩ hpast (hend hc)
 show¬Gw Q main Z (Stop d0) D.dR (G (ic D.f0 (Frame.enter P g args .normal)) (List.map (ic D.f0) []++K)) D.W0;rw[ZP];exact hn
def Oe(rf:∀g,S g=true->Q.funcs[g]?=P.funcs[g]?):Past P Q S V cd main Z Stop D K fT:= λ_ _ h=>by obtain⟨g,aS,hg,_,_,_,hne,_⟩:=h.ZP;exact absurd (rf g hg) hne
end
end
end cS
namespace cS
open Go Go.Conc Go.ConcN
section
def lb:Loc->Nat
 | .cell a=>a.block
 | .obj r=>r
 |_=>0
def fF:Loc->Prop
 | .cell _| .obj _=>True
 |_=>False
inductive Who where
 |gK (g:Nat)
 |ro
 |sy
 |lk
 |dn
 |fr
 |pt
structure Gh where
 B:Nat
 who:Loc->Who
 live:Nat->Prop
 act:Nat->Prop
 lock:Option Addr
 wg:Option Addr
def Io(a:Option Addr)(t:Trace)(i:Nat):Prop:=∃a0,a=some a0∧∃p,t.act? p=some (.mark (.releaseMerge a0))∧t.heard p∧Before t i p
def Says(γ:Gh)(t:Trace)(i:Nat):Prop:=t.counts i∨∃x,touchAt t i=some x∧γ.who x.loc≠ .sy
structure TI(γ:Gh)(t:Trace):Prop where
 gK:∀l g,γ.who l=.gK g->Perm t g l
 ro:∀l g,γ.who l=.ro->γ.live g->PermW t g l
 sy:∀i x op,γ.who x.loc=.sy->touchAt t i=some x->t[i]?=some op->(x.kind≠ .plain∧(x.kind=.said->op.g=0))∨∀g,γ.live g->Knows t g i
 lk:∀l i x,γ.who l=.lk->touchAt t i=some x->x.loc=l->(∀g,γ.live g->Knows t g i)∨Io γ.lock t i
 new:∀i x,touchAt t i=some x->fF x.loc->lb x.loc<γ.B
 ho:∀i op,t[i]?=some op->op.g≠0->Says γ t i->γ.act op.g∨Knows t 0 i∨Io γ.wg t i
 nr:∀said,¬Race said t
 nl:∀a,NoRelease a t
def Hp(who:Loc->Who)(g:Nat)(x:Touch):Prop:=
 who x.loc=.gK g∨(who x.loc=.ro∧x.write=false)∨(who x.loc=.sy∧x.kind≠ .plain∧(x.kind=.said->g=0))∨(who x.loc=.fr∧¬fF x.loc)
section
variable {γ:Gh} {t u:Trace} {g:Nat}
def Qy{l:Loc}(h:l.isMemory=true):fF l:=by cases l<;>first|trivial|cases h
def Io.app{a:Option Addr}{i:Nat}(h:Io a t i):Io a (t++u) i:=by obtain⟨a0,h0,p,h1,h2,h3⟩:=h;have hp:=lt_of_act? h1;exact⟨a0,h0,p,by rw[act?_old hp];exact h1,(heard_old hp).2 h2,h3.app u⟩
def uz{i:Nat}{x:Touch}(hx:touchAt (t++u) i=some x):(i<t.size∧touchAt t i=some x)∨∃op∈u,(t++u)[i]?=some op∧op.act.touch?=some x:=by
 obtain⟨z,hz,hzx⟩:=touch_of hx;rcases getElem?_append_cases hz with⟨hlt,hz'⟩|⟨_,hzu⟩
 .exact .inl ⟨hlt,by rw[touchAt_of hz'];exact hzx⟩
 .exact .inr ⟨z,hzu,hz,hzx⟩
def Says.old{i:Nat}(h:Says γ (t++u) i)(hlt:i<t.size):Says γ t i:=
 h.imp (counts_old hlt).1 λ⟨x,hx,hs⟩=>⟨x,by rw[<-touchAt_old (u:=u) hlt];exact hx,hs⟩
def TI.Mc(h:TI γ t)(hl:γ.live g){b:Touch}(hb:γ.who b.loc=.sy)(hk:b.kind≠ .plain)(hs:b.kind=.said->g=0){said:Bool}:∀i a,touchAt t i=some a->a.conflicts said b->Knows t g i:=by
 intro i a ha hc;obtain⟨op,hop,as9⟩:=touch_of ha;rcases h.sy i a op (by rw[hc.1];exact hb) ha hop with⟨h1,h2⟩|h1
 .obtain⟨_,_,_,hcase⟩:=hc;rcases hcase with x|x|⟨_,x,y⟩
  .exact absurd x h1
  .exact absurd x hk
  .have :=knows_own hop
   rwa [h2 x, <-hs y]at this
 .exact h1 g hl
def TI.app{B':Nat}(h:TI γ t)(hB:γ.B<=B')(hl:γ.live g)(hg:∀op∈u,op.g=g)(hu:∀op∈u,∀x,op.act.touch?=some x->Hp γ.who g x∧(fF x.loc->lb x.loc<B'))
 (hc:g=0∨γ.act g) (hr:∀op∈u,∀a,op.act≠ .mark (.release a)):TI { γ with B:=B' } (t++u):=by
 have kn:∀i op,op∈u->(t++u)[i]?=some op->γ.act op.g∨Knows (t++u) 0 i∨Io γ.wg (t++u) i:=by
  intro i op hop hi;rcases hc with h0|h0
  .have :=knows_own hi;rw[hg op hop,h0]at this;exact .inr (.inl this)
  .exact .inl (by rw[hg op hop];exact h0)
 refine⟨λl k hk=>(h.gK l k hk).app λop hop b hb e=>?_, λl k hk hlv=>(h.ro l k hk hlv).app λop hop b hb e hw=>?_, λi x op hs hx hop=>?_,
  λl i x hlk hx e=>?_, λi x hx hmem=>?_, λi op hop hg0 hcnt=>?_, λsaid=>?_, λa i hi=>?_⟩
 .have hk:γ.who l=.gK k:=hk;rcases(hu op hop b hb).1 with h1|⟨h1,_⟩|⟨h1,_⟩|⟨h1,_⟩
  .rw[e,hk]at h1;rw[hg op hop];exact(Who.gK.inj h1).symm
  all_goals(rw[e,hk]at h1;cases h1)
 .have hk:γ.who l=.ro:=hk;rcases(hu op hop b hb).1 with h1|⟨_,h1⟩|⟨h1,_⟩|⟨h1,_⟩
  .rw[e,hk]at h1;cases h1
  .rw[h1]at hw;cases hw
  .rw[e,hk]at h1;cases h1
  .rw[e,hk]at h1;cases h1
 .have hs:γ.who x.loc=.sy:=hs;rcases uz hx with⟨hlt,hx'⟩|⟨z,hz,hzi,hzx⟩
  .rw[getElem?_append_old hlt]at hop;exact(h.sy i x op hs hx' hop).imp id λh1 g' hg'=>(h1 g' hg').app u
  .rw[hzi]at hop;cases hop;rcases(hu op hz x hzx).1 with h1|⟨h1,_⟩|⟨_,h1,h2⟩|⟨h1,_⟩
   .rw[hs]at h1;cases h1
   .rw[hs]at h1;cases h1
   .exact .inl ⟨h1, λe=>by rw[hg op hz];exact h2 e⟩
   .rw[hs]at h1;cases h1
 .have hlk:γ.who l=.lk:=hlk;rcases uz hx with⟨hlt,hx'⟩|⟨z,hz,hzi,hzx⟩
  .rcases h.lk l i x hlk hx' e with h1|h1
   .exact .inl λg' hg'=>(h1 g' hg').app u
   .exact .inr h1.app
  .exfalso;rcases(hu z hz x hzx).1 with h1|⟨h1,_⟩|⟨h1,_⟩|⟨h1,_⟩<;>(rw[e,hlk]at h1;cases h1)
 .rcases uz hx with⟨hlt,hx'⟩|⟨z,hz,hzi,hzx⟩
  .exact aK (h.new i x hx' hmem) hB
  .exact(hu z hz x hzx).2 hmem
 .rcases getElem?_append_cases hop with⟨hlt,hop'⟩|⟨_,hou⟩
  .rcases h.ho i op hop' hg0 (hcnt.old hlt)with h1|h1|h1
   .exact .inl h1
   .exact .inr (.inl (h1.app u))
   .exact .inr (.inr h1.app)
  .exact kn i op hou hop
 .refine noRace_append (h.nr said) hg (λi x hx op hop b hb hc=>?_);rcases(hu op hop b hb).1 with h1|⟨h1,hw⟩|⟨h1,hk,hs⟩|⟨_,h1⟩
  .exact h.gK b.loc g h1 i x hx hc.1
  .exact h.ro b.loc g h1 hl i x hx hc.1 (hc.2.2.1.resolve_right (by simp[hw]))
  .exact h.Mc hl h1 hk hs i x hx hc
  .refine absurd ?_ h1
   rw[<-hc.1];exact Qy hc.2.1
 .obtain⟨op,ho,hoa⟩:=Option.map_eq_some_iff.1 hi;rcases getElem?_append_cases ho with⟨hlt,ho'⟩|⟨_,hou⟩
  .exact h.nl a i (by rw[act?_of ho',hoa])
  .exact hr op hou a hoa
def TI.Md(h:TI γ t)(hl:γ.live g)(hg:∀op∈u,op.g=g)(hu:∀op∈u,∀x,op.act.touch?=some x->γ.who x.loc=.sy∧x.kind=.atomic∧(fF x.loc->lb x.loc<γ.B))
 (hd:∀i op,t.size<=i->op∈u->(t++u)[i]?=some op->¬(t++u).counts i) (hr:∀op∈u,∀a,op.act≠ .mark (.release a)):TI γ (t++u):=by
 have no:∀op∈u,∀x,op.act.touch?=some x->∀l,x.loc=l->γ.who l=.sy:= λop hop x hx l e=>e ▸ (hu op hop x hx).1
 refine⟨λl k hk=>(h.gK l k hk).app λop hop b hb e=>?_, λl k hk hlv=>(h.ro l k hk hlv).app λop hop b hb e hw=>?_, λi x op hs hx hop=>?_,
  λl i x hlk hx e=>?_, λi x hx hmem=>?_, λi op hop hg0 hcnt=>?_, λsaid=>?_, λa i hi=>?_⟩
 .have :=no op hop b hb l e;rw[hk]at this;cases this
 .have :=no op hop b hb l e;rw[hk]at this;cases this
 .rcases uz hx with⟨hlt,hx'⟩|⟨z,hz,hzi,hzx⟩
  .rw[getElem?_append_old hlt]at hop;exact(h.sy i x op hs hx' hop).imp id λh1 g' hg'=>(h1 g' hg').app u
  .obtain⟨_,h1,_⟩:=hu z hz x hzx;exact .inl ⟨by rw[h1];simp, λe=>by rw[h1]at e;cases e⟩
 .rcases uz hx with⟨hlt,hx'⟩|⟨z,hz,hzi,hzx⟩
  .rcases h.lk l i x hlk hx' e with h1|h1
   .exact .inl λg' hg'=>(h1 g' hg').app u
   .exact .inr h1.app
  .have :=no z hz x hzx l e;rw[hlk]at this;cases this
 .rcases uz hx with⟨hlt,hx'⟩|⟨z,hz,hzi,hzx⟩
  .exact h.new i x hx' hmem
  .exact(hu z hz x hzx).2.2 hmem
 .rcases getElem?_append_cases hop with⟨hlt,hop'⟩|⟨hge,hou⟩
  .rcases h.ho i op hop' hg0 (hcnt.old hlt)with h1|h1|h1
   .exact .inl h1
   .exact .inr (.inl (h1.app u))
   .exact .inr (.inr h1.app)
  .rcases hcnt with hcnt|⟨x,hx,hs⟩
   .exact absurd hcnt (hd i op hge hou hop)
   .rw[touchAt_of hop]at hx;exact absurd (hu op hou x hx).1 hs
 .refine noRace_append (h.nr said) hg (λi x hx op hop b hb hc=>?_);obtain⟨h1,h2,_⟩:=hu op hop b hb;exact h.Mc hl h1 (by rw[h2];simp) (λe=>by rw[h2]at e;cases e) i x hx hc
 .obtain⟨op,ho,hoa⟩:=Option.map_eq_some_iff.1 hi;rcases getElem?_append_cases ho with⟨hlt,ho'⟩|⟨_,hou⟩
  .exact h.nl a i (by rw[act?_of ho',hoa])
  .exact hr op hou a hoa
def lF{z:MemOp}(hn:z.act.touch?=none){i:Nat}{b:Touch}(hb:touchAt (t++ #[z]) i=some b):touchAt t i=some b:=by
 rcases uz hb with⟨_,h⟩|⟨y,hy,_,hyb⟩
 .exact h
 .simp at hy;subst hy;rw[hn]at hyb;cases hyb
def TI.still(h:TI γ t){z:MemOp}(hn:z.act.touch?=none)(hr:∀a,z.act≠ .mark (.release a)):TI γ (t++ #[z]):=by
 have lt:∀{i:Nat}{x:Touch},touchAt (t++ #[z]) i=some x->i<t.size:= λhx=>by obtain⟨op,hop,_⟩:=touch_of (lF hn hx);exact lt_size_of_getElem? hop
 refine⟨λl g hl i x hx e=>(h.gK l g hl i x (lF hn hx) e).app _, λl g hl hlv i x hx e hw=>(h.ro l g hl hlv i x (lF hn hx) e hw).app _, λi x op hs hx hop=>?_, λl i x hl hx e=>?_, λi x hx=>h.new i x (lF hn hx), λi op hi hg hs=>?_, λsaid=>?_, λa i hi=>?_⟩
 .rw[getElem?_append_old (lt hx)]at hop;exact(h.sy i x op hs (lF hn hx) hop).imp id λh1 g' hg'=>(h1 g' hg').app _
 .rcases h.lk l i x hl (lF hn hx) e with h1|h1
  .exact .inl λg' hg'=>(h1 g' hg').app _
  .exact .inr h1.app
 .rcases getElem?_append_cases hi with⟨hlt,hi'⟩|⟨_,hiu⟩
  .rcases h.ho i op hi' hg (hs.old hlt)with h1|h1|h1
   .exact .inl h1
   .exact .inr (.inl (h1.app _))
   .exact .inr (.inr h1.app)
  .exfalso
   have hz:touchAt (t++ #[z]) i=none:=by rw[touchAt_of hi];simp at hiu;rw[hiu,hn]
   rcases hs with⟨x,hx,_⟩|⟨x,hx,_⟩
   .have hx':touchAt (t++ #[z]) i=some x:=hx;rw[hz]at hx';cases hx'
   .rw[hz]at hx;cases hx
 .refine noRace_append (g:=z.g) (h.nr said) (λop hop=>by simp at hop;rw[hop]) (λi a _ op hop b hb _=>?_);simp at hop;rw[hop,hn]at hb;cases hb
 .obtain⟨op,ho,hoa⟩:=Option.map_eq_some_iff.1 hi;rcases getElem?_append_cases ho with⟨hlt,ho'⟩|⟨_,hou⟩
  .exact h.nl a i (by rw[act?_of ho',hoa])
  .simp at hou;exact hr a (by rw[<-hou];exact hoa)
def TI.Kh(h:TI γ t){u:Trace}(hn:∀op∈u,op.act.touch?=none)(hr:∀op∈u,∀a,op.act≠ .mark (.release a)):TI γ (t++u):=by
 obtain⟨l⟩:=u
 induction l generalizing t with
 |nil=>simpa using h
 |cons z l ih=>
  have e:t++(⟨z::l⟩:Trace)=(t++ #[z])++(⟨l⟩:Trace):=by apply Array.ext';simp
  rw[e];exact ih (h.still (hn z (by simp)) (hr z (by simp))) (λop hop=>hn op (by simp at hop⊢;exact .inr hop)) (λop hop=>hr op (by simp at hop⊢;exact .inr hop))
def TI.drop(h:TI γ t){live':Nat->Prop}(hl:∀g,live' g->γ.live g):TI { γ with live:=live' } t:=
 ⟨h.gK, λl g hr hg=>h.ro l g hr (hl g hg), λi x op hs hx hop=>(h.sy i x op hs hx hop).imp id λh1 g hg=>h1 g (hl g hg), λl i x hk hx e=>(h.lk l i x hk hx e).imp (λh1 g hg=>h1 g (hl g hg)) id,h.new,h.ho,h.nr,h.nl⟩
def TI.Me(h:TI γ t){dN:Loc->Who}(hw:∀l,(fF l->lb l<γ.B)->dN l=γ.who l):TI { γ with who:=dN } t:=by
 have key:∀{i:Nat}{x:Touch},touchAt t i=some x->dN x.loc=γ.who x.loc:= λhx=>hw _ (h.new _ _ hx)
 refine⟨λl g hl i x hx e=>?_, λl g hl hlv i x hx e hwr=>?_, λi x op hs hx hop=>?_, λl i x hl hx e=>?_,h.new, λi op hi hg hs=>?_,h.nr,h.nl⟩
 .have hl:dN l=.gK g:=hl;rw[<-e,key hx]at hl;exact h.gK x.loc g hl i x hx rfl
 .have hl:dN l=.ro:=hl;rw[<-e,key hx]at hl;exact h.ro x.loc g hl hlv i x hx rfl hwr
 .have hs:dN x.loc=.sy:=hs;rw[key hx]at hs;exact h.sy i x op hs hx hop
 .have hl:dN l=.lk:=hl;rw[<-e,key hx]at hl;exact h.lk x.loc i x hl hx rfl
 .refine h.ho i op hi hg (hs.imp id λ⟨x,hx,hn⟩=>⟨x,hx,?_⟩);have hn:dN x.loc≠ .sy:=hn
  rwa [key hx]at hn
def x9{γ':Gh}(hsy:∀l,γ'.who l=.sy↔γ.who l=.sy){i:Nat}(h:Says γ' t i):Says γ t i:=
 h.imp id λ⟨x,hx,hn⟩=>⟨x,hx, λe=>hn ((hsy _).2 e)⟩
def TI.ac4(h:TI γ t)(h0:∀g,γ.live g->g=0){dN:Loc->Who}(hw:∀l,dN l=γ.who l∨(γ.who l=.gK 0∧(dN l=.ro∨dN l=.lk∨dN l=.sy∨dN l=.pt)))(ha:∀g,g≠0->¬γ.act g)(hwg:γ.wg=none)(hlk:γ.lock=none)(wg' cQ:Option Addr):TI { γ with who:=dN,wg:=wg',lock:=cQ } t:=by
 refine⟨λl g hl=>?_, λl g hl hlv=>?_, λi x op hs hx hop=>?_, λl i x hl hx e=>?_,h.new, λi op hi hg hs=>?_,h.nr,h.nl⟩
 .have hl:dN l=.gK g:=hl;rcases hw l with e|⟨_,e'|e'|e'|e'⟩
  .rw[e]at hl;exact h.gK l g hl
  all_goals(rw[e']at hl;cases hl)
 .have hl:dN l=.ro:=hl;have :=h0 g hlv;subst this;rcases hw l with e|⟨e,_⟩
  .rw[e]at hl;exact h.ro l _ hl hlv
  .exact PermW.of (h.gK l 0 e)
 .have hs:dN x.loc=.sy:=hs;rcases hw x.loc with e'|⟨e',_⟩
  .rw[e']at hs;exact h.sy i x op hs hx hop
  .refine .inr λg hg=>?_
   have hg:γ.live g:=hg;rw[h0 g hg];exact h.gK x.loc 0 e' i x hx rfl
 .have hl:dN l=.lk:=hl;rcases hw l with e'|⟨e',_⟩
  .rw[e']at hl;rcases h.lk l i x hl hx e with h1|⟨a0,h1,_⟩
   .exact .inl h1
   .rw[hlk]at h1;cases h1
  .refine .inl λg hg=>?_
   have hg:γ.live g:=hg;rw[h0 g hg];exact h.gK l 0 e' i x hx e
 .have hs':Says γ t i∨Knows t 0 i:=by
   rcases hs with hc|⟨x,hx,hn⟩
   .exact .inl (.inl hc)
   .have hn:dN x.loc≠ .sy:=hn;rcases hw x.loc with e'|⟨e',_⟩
    .exact .inl (.inr ⟨x,hx,by rw[<-e'];exact hn⟩)
    .exact .inr (h.gK x.loc 0 e' i x hx rfl)
  rcases hs' with hs'|hs'
  .rcases h.ho i op hi hg hs' with h1|h1|⟨a0,h1,_⟩
   .exact absurd h1 (ha _ hg)
   .exact .inr (.inl h1)
   .rw[hwg]at h1;cases h1
  .exact .inr (.inl hs')
def TI.fork(h:TI γ t){k:Nat}{x y:MemOp}(hx:x.g=0∧x.act=.go k)(hy:y.g=k∧y.act=.start)(h0:Deaf t 0=0)(hk:Deaf t k=0)(hl:γ.live 0)
 {dN:Loc->Who} (hw:∀l,dN l=γ.who l∨(γ.who l=.gK 0∧dN l=.gK k)):
 TI { γ with who:=dN,live:= λg=>γ.live g∨g=k,act:= λg=>γ.act g∨g=k } (t++ #[x,y]):=by
 have hb:TI γ (t++ #[x,y]):=by
  have e:t++ #[x,y]=(t++ #[x])++ #[y]:=by apply Array.ext';simp
  rw[e];exact(h.still (by rw[hx.2];rfl) (by rw[hx.2];simp)).still (by rw[hy.2];rfl) (by rw[hy.2];simp)
 have old:∀{i:Nat}{b:Touch},touchAt (t++ #[x,y]) i=some b->touchAt t i=some b:=by
  intro i b hb;rcases uz hb with⟨_,h⟩|⟨z,hz,_,hzb⟩
  .exact h
  .exfalso;have:z=x∨z=y:=by simpa using hz
   rcases this with rfl|rfl
   .rw[hx.2]at hzb;cases hzb
   .rw[hy.2]at hzb;cases hzb
 have hsy:∀l,dN l=.sy↔γ.who l=.sy:=by
  intro l;rcases hw l with e|⟨e,e'⟩
  .rw[e]
  .rw[e,e'];simp
 refine⟨λl g hl' i b hb' e=>?_, λl g hl' hlv i b hb' e hwr=>?_, λi b op hs hb' hi=>?_, λl i b hl' hb' e=>?_,hb.new, λi op hi hg hs=>?_,hb.nr,hb.nl⟩
 .have hl':dN l=.gK g:=hl';rcases hw l with e'|⟨e',e''⟩
  .rw[e']at hl';exact hb.gK l g hl' i b hb' e
  .rw[e'']at hl';cases hl';exact fork_knows hx hy h0 hk (h.gK l 0 e' i b (old hb') e)
 .have hl':dN l=.ro:=hl'
  have hr:γ.who l=.ro:=by
   rcases hw l with e'|⟨_,e''⟩
   .rw[<-e'];exact hl'
   .rw[e'']at hl';cases hl'
  rcases hlv with hlv|rfl
  .exact hb.ro l g hr hlv i b hb' e hwr
  .exact fork_knows hx hy h0 hk (h.ro l 0 hr hl i b (old hb') e hwr)
 .have hlt:i<t.size:=by
   obtain⟨z,hz,_⟩:=touch_of (old hb');exact lt_size_of_getElem? hz
  rw[getElem?_append_old hlt]at hi;rcases h.sy i b op ((hsy _).1 hs) (old hb') hi with h1|h1
  .exact .inl h1
  .refine .inr λg hg=>?_
   rcases hg with hg|rfl
   .exact(h1 g hg).app _
   .exact fork_knows hx hy h0 hk (h1 0 hl)
 .have hl':dN l=.lk:=hl'
  have hr:γ.who l=.lk:=by
   rcases hw l with e'|⟨_,e''⟩
   .rw[<-e'];exact hl'
   .rw[e'']at hl';cases hl'
  rcases h.lk l i b hr (old hb') e with h1|h1
  .refine .inl λg hg=>?_
   rcases hg with hg|rfl
   .exact(h1 g hg).app _
   .exact fork_knows hx hy h0 hk (h1 0 hl)
  .exact .inr h1.app
 .rcases hb.ho i op hi hg (x9 (γ:=γ) (γ':={ γ with who:=dN,live:= λg=>γ.live g∨g=k,act:= λg=>γ.act g∨g=k }) hsy hs)with h1|h1
  .exact .inl (.inl h1)
  .exact .inr h1
def EB{a:Addr}{z:MemOp}(hz:z.act=.mark (.acquire a))(hd:Deaf t z.g=0)(hn:NoRelease a t){i:Nat}(h:Io (some a) t i):Knows (t++ #[z]) z.g i:=by
 obtain⟨a0,h0,p,h1,h2,h3⟩:=h;cases h0;have hq:(t++ #[z])[t.size]?=some z:=by simp
 have hp:=lt_of_act? h1
 have edge:HappensBefore (t++ #[z]) p t.size:=.single (.inr ⟨.marked hp (.inr (by rw[act?_old hp];exact h1)) (by rw[act?_of hq,hz]) (λk _ hk=>by rw[act?_old hk];exact hn k),(heard_old hp).2 h2,
  ⟨z.g,by simp[Trace.g?],by rw[deaf_old (aJ _)];exact hd⟩⟩)
 exact⟨t.size,z,hq,rfl,.inr ((h3.app #[z]).hb edge)⟩
def TI.acquire(h:TI γ t){z:MemOp}{a:Addr}(hla:γ.lock=some a)(hz:z.act=.mark (.acquire a))(hd:Deaf t z.g=0)(hl:γ.live z.g){dN:Loc->Who}(hw:∀l,dN l=γ.who l∨(γ.who l=.lk∧dN l=.gK z.g)):
 TI { γ with who:=dN } (t++ #[z]):=by
 have hn:z.act.touch?=none:=by rw[hz];rfl
 have hb:TI γ (t++ #[z]):=h.still hn (by rw[hz];simp)
 have hsy:∀l,dN l=.sy↔γ.who l=.sy:=by
  intro l;rcases hw l with e|⟨e,e'⟩
  .rw[e]
  .rw[e,e'];simp
 refine⟨λl g hl' i b hb' e=>?_, λl g hl' hlv=>?_, λi b op hs hb' hi=>hb.sy i b op ((hsy _).1 hs) hb' hi, λl i b hl' hb' e=>?_,hb.new, λi op hi hg hs=>hb.ho i op hi hg (x9 (γ:=γ) (γ':={ γ with who:=dN }) hsy hs),hb.nr,hb.nl⟩
 .have hl':dN l=.gK g:=hl';rcases hw l with e'|⟨e',e''⟩
  .rw[e']at hl';exact hb.gK l g hl' i b hb' e
  .rw[e'']at hl';cases hl';rcases h.lk l i b e' (lF hn hb') e with h1|h1
   .exact(h1 z.g hl).app _
   .rw[hla]at h1;exact EB hz hd (h.nl a) h1
 .have hl':dN l=.ro:=hl';rcases hw l with e'|⟨_,e''⟩
  .rw[e']at hl';exact hb.ro l g hl' hlv
  .rw[e'']at hl';cases hl'
 .have hl':dN l=.lk:=hl';rcases hw l with e'|⟨_,e''⟩
  .rw[e']at hl';exact hb.lk l i b hl' hb' e
  .rw[e'']at hl';cases hl'
def TI.release(h:TI γ t){y:MemOp}{a:Addr}(hla:γ.lock=some a)(hy:y.act=.mark (.releaseMerge a))(hd:Deaf t y.g=0){dN:Loc->Who}(hw:∀l,dN l=γ.who l∨(γ.who l=.gK y.g∧dN l=.lk)):
 TI { γ with who:=dN } (t++ #[y]):=by
 have hn:y.act.touch?=none:=by rw[hy];rfl
 have hb:TI γ (t++ #[y]):=h.still hn (by rw[hy];simp);have hq:(t++ #[y])[t.size]?=some y:=by simp
 have hsy:∀l,dN l=.sy↔γ.who l=.sy:=by
  intro l;rcases hw l with e|⟨e,e'⟩
  .rw[e]
  .rw[e,e'];simp
 refine⟨λl g hl' i b hb' e=>?_, λl g hl' hlv=>?_, λi b op hs hb' hi=>hb.sy i b op ((hsy _).1 hs) hb' hi, λl i b hl' hb' e=>?_,hb.new, λi op hi hg hs=>hb.ho i op hi hg (x9 (γ:=γ) (γ':={ γ with who:=dN }) hsy hs),hb.nr,hb.nl⟩
 .have hl':dN l=.gK g:=hl';rcases hw l with e'|⟨_,e''⟩
  .rw[e']at hl';exact hb.gK l g hl' i b hb' e
  .rw[e'']at hl';cases hl'
 .have hl':dN l=.ro:=hl';rcases hw l with e'|⟨_,e''⟩
  .rw[e']at hl';exact hb.ro l g hl' hlv
  .rw[e'']at hl';cases hl'
 .have hl':dN l=.lk:=hl';rcases hw l with e'|⟨e',e''⟩
  .rw[e']at hl';exact hb.lk l i b hl' hb' e
  .refine .inr ⟨a,hla,t.size,by rw[act?_of hq,hy],⟨y.g,by simp[Trace.g?],by rw[deaf_old (aJ _)];exact hd⟩,.inr ?_⟩;exact(h.gK l y.g e' i b (lF hn hb') e).hb_new (aJ _) hq rfl
def TI.done(h:TI γ t){y:MemOp}{a:Addr}(hla:γ.wg=some a)(hy:y.act=.mark (.releaseMerge a))(hd:Deaf t y.g=0){dN:Loc->Who}(hw:∀l,dN l≠ .gK y.g∧(dN l=γ.who l∨(γ.who l=.gK y.g∧dN l=.dn))):
 TI { γ with who:=dN,act:= λg=>γ.act g∧g≠y.g } (t++ #[y]):=by
 have hn:y.act.touch?=none:=by rw[hy];rfl
 have hb:TI γ (t++ #[y]):=h.still hn (by rw[hy];simp);have hq:(t++ #[y])[t.size]?=some y:=by simp
 have hrel:∀i,Before (t++ #[y]) i t.size->Io γ.wg (t++ #[y]) i:= λi hi=>⟨a,hla,t.size,by rw[act?_of hq,hy],⟨y.g,by simp[Trace.g?],by rw[deaf_old (aJ _)];exact hd⟩,hi⟩
 have hsy:∀l,dN l=.sy↔γ.who l=.sy:=by
  intro l;rcases(hw l).2 with e|⟨e,e'⟩
  .rw[e]
  .rw[e,e'];simp
 refine⟨λl g hl' i b hb' e=>?_, λl g hl' hlv=>?_, λi b op hs hb' hi=>hb.sy i b op ((hsy _).1 hs) hb' hi, λl i b hl' hb' e=>?_,hb.new, λi op hi hg hs=>?_,hb.nr,hb.nl⟩
 .have hl':dN l=.gK g:=hl';rcases(hw l).2 with e'|⟨_,e''⟩
  .rw[e']at hl';exact hb.gK l g hl' i b hb' e
  .rw[e'']at hl';cases hl'
 .have hl':dN l=.ro:=hl';rcases(hw l).2 with e'|⟨_,e''⟩
  .rw[e']at hl';exact hb.ro l g hl' hlv
  .rw[e'']at hl';cases hl'
 .have hl':dN l=.lk:=hl';rcases(hw l).2 with e'|⟨e',e''⟩
  .rw[e']at hl';exact hb.lk l i b hl' hb' e
  .rw[e'']at hl';cases hl'
 .rcases hb.ho i op hi hg (x9 (γ:=γ) (γ':={ γ with who:=dN,act:= λg=>γ.act g∧g≠y.g }) hsy hs)with h1|h1
  .by_cases he:op.g=y.g
   .refine .inr (.inr (hrel i ?_))
    have hle:i<=t.size:=by have :=lt_size_of_getElem? hi;simp at this;omega
    rcases bq i t.size with hlt|hge
    .exact .inr (hb_po hlt hi hq he)
    .exact .inl (by omega)
   .exact .inl ⟨h1,he⟩
  .exact .inr h1
def TI.join(h:TI γ t){z:MemOp}{a:Addr}(hla:γ.wg=some a)(hz:z.act=.mark (.acquire a))(hg:z.g=0)(hd:Deaf t 0=0)(hno:∀g,g≠0->¬γ.act g){dN:Loc->Who}(hw:∀l,(dN l=γ.who l∧(γ.who l=.sy∨γ.who l=.fr))∨(γ.who l≠ .sy∧dN l=.gK 0)):
 TI { γ with who:=dN,wg:=none,lock:=none } (t++ #[z])∧∀i op,(t++ #[z])[i]?=some op->op.g≠0->Says γ (t++ #[z]) i->Knows (t++ #[z]) 0 i:=by
 have hn:z.act.touch?=none:=by rw[hz];rfl
 have hb:TI γ (t++ #[z]):=h.still hn (by rw[hz];simp)
 have hsy:∀l,dN l=.sy↔γ.who l=.sy:=by
  intro l;rcases hw l with⟨e,_⟩|⟨e,e'⟩
  .rw[e]
  .rw[e'];simp[e]
 have hkn:∀i op,(t++ #[z])[i]?=some op->op.g≠0->Says γ (t++ #[z]) i->Knows (t++ #[z]) 0 i:=by
  intro i op hi hg0 hs;rcases getElem?_append_cases hi with⟨hlt,hi'⟩|⟨_,hiu⟩
  .rcases h.ho i op hi' hg0 (hs.old hlt)with h1|h1|h1
   .exact absurd h1 (hno _ hg0)
   .exact h1.app _
   .rw[hla]at h1;have :=EB hz (by rw[hg];exact hd) (h.nl a) h1
    rwa [hg]at this
  .simp at hiu;subst hiu;exact absurd hg hg0
 have all:∀l,γ.who l≠ .sy->Perm (t++ #[z]) 0 l:=by
  intro l hl i x hx e;obtain⟨op,hop,at0⟩:=touch_of hx
  by_cases hg0:op.g=0
  .have :=knows_own hop
   rwa [hg0]at this
  .exact hkn i op hop hg0 (.inr ⟨x,hx,by rw[e];exact hl⟩)
 refine⟨⟨λl g hl'=>?_, λl g hl'=>?_, λi b op hs hb' hi=>hb.sy i b op ((hsy _).1 hs) hb' hi, λl i b hl'=>?_,hb.new, λi op hi hg' hs=>.inr (.inl (hkn i op hi hg' (x9 (γ:=γ) (γ':={ γ with who:=dN,wg:=none,lock:=none }) hsy hs))),hb.nr,hb.nl⟩,hkn⟩
 .have hl':dN l=.gK g:=hl';rcases hw l with⟨e',e|e⟩|⟨e,e'⟩
  .rw[e',e]at hl';cases hl'
  .rw[e',e]at hl';cases hl'
  .rw[e']at hl';cases hl';exact all l e
 .have hl':dN l=.ro:=hl';rcases hw l with⟨e',e|e⟩|⟨_,e'⟩
  .rw[e',e]at hl';cases hl'
  .rw[e',e]at hl';cases hl'
  .rw[e']at hl';cases hl'
 .have hl':dN l=.lk:=hl';rcases hw l with⟨e',e|e⟩|⟨_,e'⟩
  .rw[e',e]at hl';cases hl'
  .rw[e',e]at hl';cases hl'
  .rw[e']at hl';cases hl'
def handed(h:∀i op,t[i]?=some op->op.g≠0->t.counts i->Knows t 0 i):t.HandedOver:=by
 intro i g hgi hne hc;obtain⟨op,hop,hg⟩:=Option.map_eq_some_iff.1 hgi;obtain⟨q,z,h1,h2,h3⟩:=h i op hop (by rw[hg];exact hne) hc;refine⟨q,by simp[Trace.g?,h1,h2],?_⟩;rcases h3 with rfl|h3
 .rw[hop]at h1;cases h1;exact absurd (hg.symm.trans h2) hne
 .exact h3
end
end
end cS
namespace cS
open Go Go.Conc Go.ConcM
section
inductive l7{α:Type}(r:α->α->Prop):List α->List α->Prop
 |head {a b:α} {l:List α} (h:r a b):l7 r (a::l) (b::l)
 |tail {a:α} {l k:List α} (h:l7 r l k):l7 r (a::l) (a::k)
def l7.Qz{α:Type}{r:α->α->Prop}{a:α}(ha:Acc r a):∀{l:List α},Acc (l7 r) l->Acc (l7 r) (a::l):=by
 induction ha with
 |intro a _ iha=>
  intro l hl
  induction hl with
  |intro _ hl ihl=>
   refine .intro _ λy hy=>?_
   cases hy with
   |head h=>exact iha _ h (.intro _ hl)
   |tail h=>exact ihl _ h
def l7.acc{α:Type}{r:α->α->Prop}:∀{l:List α},(∀a∈l,Acc r a)->Acc (l7 r) l
 | [],_=>.intro _ λy hy=>by cases hy
 |a::l,h=>l7.Qz (h a (aP ..)) (l7.acc λb hb=>h b (aQ _ hb))
def l7.wf{α:Type}{r:α->α->Prop}(h:WellFounded r):WellFounded (l7 r):=⟨λl=>l7.acc λa _=>h.apply a⟩
def l7.QA{α:Type}{r:α->α->Prop}:∀{l:List α}{i:Nat}{a b:α},l[i]?=some b->r a b->l7 r (l.set i a) l
 |_::_,0,a,b,h,hr=>by simp at h;subst h;exact .head hr
 |x::l,i+1,a,b,h,hr=>by simp at h;exact .tail (l7.QA h hr)
 | [],i,a,b,h,_=>by simp at h
inductive Tr where
 |leaf
 |node (f:World->Tr)
def Tr.Sub(x y:Tr):Prop:=∃(f:World->Tr)(W:World),y=.node f∧x=f W
def Tr.wf:WellFounded Tr.Sub:=by
 refine⟨λt=>?_⟩
 induction t with
 |leaf=>exact .intro _ λy ⟨f,W,h,_⟩=>by cases h
 |node f ih=>
  refine .intro _ λy ⟨f',W,h,hy⟩=>?_
  cases h;rw[hy];exact ih W
def Gr(P:Program)(main:Bool)(Z:fO)(Stop:(Nat->Prop)->Goroutine->World->Prop):Tr->(Nat->Prop)->Goroutine->World->Prop
 | .leaf,own,g,W=>∀W1,dM Z own W W1->Stop own g W1
 | .node f,own,g,W=>g.status=.running∧∀W1,dM Z own W W1->∃g' W' es,stepG P main g W1=.go g' W' es∧qK Z own W1 W'∧(∀e∈es,NY Z (grow own W1 W') e)∧Gr P main Z Stop (f W1) (grow own W1 W') g' W'
section
variable {P:Program} {main:Bool} {Z:fO} {Stop:(Nat->Prop)->Goroutine->World->Prop} {own:Nat->Prop} {g:Goroutine} {W:World}
def Gw.rank(h:Gw P main Z Stop own g W):∃tr,Gr P main Z Stop tr own g W:=by
 classical
 induction h with
 |stop h=>exact⟨.leaf,h⟩
 | @step own g W hs g' W' es h1 h2 h3 _ ih=>
   refine⟨.node λW1=>if hr:dM Z own W W1 then(ih W1 hr).choose else .leaf,hs, λW1 hr=>⟨g' W1,W' W1,es W1,h1 W1 hr,h2 W1 hr,h3 W1 hr,?_⟩⟩;dsimp only;rw[dif_pos hr];exact(ih W1 hr).choose_spec
def Gr.rely{tr:Tr}{W1:World}(h:Gr P main Z Stop tr own g W)(hr:dM Z own W W1):Gr P main Z Stop tr own g W1:=by
 cases tr with
 |leaf=>exactλW2 h2=>h W2 (hr.trans h2)
 |node f=>exact⟨h.1, λW2 h2=>h.2 W2 (hr.trans h2)⟩
end
def qK.rely{Z Z':fO}{own dD:Nat->Prop}{W W1:World}(h:qK Z own W W1)(hlt:∀b,dD b->b<W.heap.size)(ho:∀b,dD b->¬own b∧¬Z.sy b)(am7:∀b,Z'.ro b->b<W.heap.size)(hr:∀b,Z'.ro b->¬own b∧¬Z.sy b)
 (hs:∀b,Z'.sy b->Z.sy b∨(b<W.heap.size∧¬own b)) (hc:∀b i,Z'.cl b i->(Z.sy b∧¬Z.cl b i)∨(b<W.heap.size∧¬own b∧¬Z.sy b)):dM Z' dD W W1:=by
 refine⟨h.tape,h.out,by rw[h.os];exact OsLater.refl _,h.size, λb hb=>h.rest b (hlt b hb) (ho b hb).1 (ho b hb).2, λb hb=>h.rest b (am7 b hb) (hr b hb).1 (hr b hb).2, λb hb=>?_, λb i hb=>?_⟩
 .by_cases hz:Z.sy b
  .exact(h.sy b hz).1
  .rcases hs b hb with x|⟨x,y⟩
   .exact absurd x hz
   .rw[h.rest b x y hz];exact tV.refl _
 .rcases hc b i hb with⟨x,y⟩|⟨x,y,z⟩
  .exact(h.sy b x).2 i y
  .unfold World.cell?;simp only[h.rest b x y z]
end
end cS
namespace cS
open Go Go.Conc Go.ConcM Go.ConcN
section
inductive Kind where
 |atomic|disable|enable|clock|said|sem|pz|pE|done|join
structure Sys(T Sh:Type) where
 Bb:Sh->World->Prop
 syn:Nat->Prop
 fM:Sh->Option Addr
 kW:Sh->Option Addr
 mv:Nat->T->Sh->T->Sh->Prop
 sp:T->Sh->T->T->Sh->Prop
 blk:T->Sh->Prop
 wakes:T->Bool
 kind:T->Kind
 fork:T->Bool
 ret:T->Bool
 quit:T->Bool
 deaf:T->Nat
 past:T->Bool
 Z:Nat->T->fO
 J:Sh->(Nat->Prop)->World->Prop
 Dp:Sh->(Nat->Prop)->(Nat->Nat->Prop)->World->Prop
 fits:Nat->T->Sh->Prop
 Anch:T->(Nat->Prop)->Goroutine->World->Prop
section
variable {T Sh:Type} (P:Program) (S:Sys T Sh)
structure dS(W W':World):Prop where
 tape:W'.tape=W.tape
 out:W'.output=W.output
 os:OsLater W.os W'.os
 size:W'.heap.size=W.heap.size
 rest:∀b,¬S.syn b->W'.heap[b]?=W.heap[b]?
 tV:∀b,S.syn b->tV W.heap[b]? W'.heap[b]?
def PN(s:Sh):Kind->Array Event->Prop
 | .atomic,es=>∀e∈es,∃a,e.loc=.cell a∧e.sync=true∧S.syn a.block
 | .disable,es=>es= #[⟨.mark .disable,false,true⟩]
 | .enable,es=>es= #[⟨.mark .enable,false,true⟩]
 | .clock,es=>∀e∈es,e.loc=.output
 | .said,es=>∃a,S.syn a.block∧(es= #[⟨.mark (.read a),false,true⟩]∨es= #[⟨.mark (.write a),false,true⟩])
 | .sem,es=>∃a,S.syn a.block∧es= #[⟨.mark .disable,false,true⟩,⟨.cell a,false,true⟩,⟨.cell a,true,true⟩,⟨.mark .enable,false,true⟩]
 | .pz,es=>∃a,S.fM s=some a∧es= #[⟨.mark (.acquire a),false,true⟩]
 | .pE,es=>∃a,S.fM s=some a∧es= #[⟨.mark (.releaseMerge a),false,true⟩]
 | .done,es=>∃a,S.kW s=some a∧es= #[⟨.mark (.releaseMerge a),false,true⟩]
 | .join,es=>∃a,S.kW s=some a∧es= #[⟨.mark (.acquire a),false,true⟩]
abbrev jE(T:Type):=Nat->T->(Nat->Prop)->Goroutine->World->Prop
def On(X:jE T)(i:Nat)(Tt:T)(own:Nat->Prop)(g:Goroutine)(W:World):Prop:=
 if S.quit Tt then∃q,QuitsD P q (S.deaf Tt) g else Gw P (i==0) (S.Z i Tt) (X i Tt) own g W
def xI(X:jE T)(i:Nat)(Tt:T)(own:Nat->Prop)(g:Goroutine)(W:World):Prop:=
 g.status=.running∧((∃s,S.blk Tt s)->g.offers=none)∧∀s,S.Bb s W->S.fits i Tt s->
  if S.ret Tt then S.Anch Tt own g W
  else if S.fork Tt then
   ∃T' Tc s' g' child mX dD,S.sp Tt s T' Tc s'∧stepG P (i==0) g W=.spawn g' child W #[]∧S.Bb s' W∧(∀b,own b↔dD b∨mX b)∧(∀b,dD b->¬mX b)∧
    On P S X i T' dD g' W∧∀k,k≠0->On P S X k Tc mX child W
  else
   (S.blk Tt s∧stepG P (i==0) g W=.go { g with status:=.blocked } W #[])∨
   (¬S.blk Tt s∧∃T' s' g' W' es,S.mv i Tt s T' s'∧stepG P (i==0) g W=.go g' W' es∧(S.wakes Tt=true->mayWake P g=true)∧S.Bb s' W'∧dS S W W'∧PN S s (S.kind Tt) es∧
     match S.kind Tt with
     | .pz=>∀G,(∀b,G b->¬own b)->S.J s G W'->On P S X i T' (λb=>own b∨G b) g' W'
     | .pE=>∃G,(∀b,G b->own b)∧S.J s' G W'∧On P S X i T' (λb=>own b∧¬G b) g' W'
     | .done=>(∀D Dc,S.Dp s D Dc W'->S.Dp s' (λb=>D b∨own b) (λb k=>Dc b k∨(S.Z i Tt).cl b k) W')∧On P S X i T' (λ_=>False) g' W'
     | .join=>∀G D Dc dD,S.J s G W'->S.Dp s D Dc W'->(∀b,G b->¬own b)->(∀b,dD b->b<W'.heap.size∧¬S.syn b)->(∀b,own b->dD b)->(∀b,G b->dD b)->(∀b,D b->dD b)->On P S X i T' dD g' W'
     |_=>On P S X i T' own g' W')
def At(i:Nat)(Tt:T)(own:Nat->Prop)(g:Goroutine)(W:World):Prop:=
 ∃X:jE T,(∀i Tt own g W,X i Tt own g W->xI P S X i Tt own g W)∧X i Tt own g W
end
section
variable {T Sh:Type} {P:Program} {S:Sys T Sh}
def Gw.mono{main:Bool}{Z:fO}{X Y:(Nat->Prop)->Goroutine->World->Prop}(h:∀own g W,X own g W->Y own g W){own:Nat->Prop}{g:Goroutine}{W:World}(hg:Gw P main Z X own g W):Gw P main Z Y own g W:=
 hg.bind λ_ _ _ hs=>.stop λW1 hr=>h _ _ _ (hs W1 hr)
def On.mono{X Y:jE T}(h:∀i Tt own g W,X i Tt own g W->Y i Tt own g W){i:Nat}{Tt:T}{own:Nat->Prop}{g:Goroutine}{W:World}(ho:On P S X i Tt own g W):On P S Y i Tt own g W:=by
 unfold On at ho⊢;split
 .rename_i hq;rw[aj hq]at ho;exact ho
 .rename_i hq;rw[aa hq]at ho;exact Gw.mono (h i Tt) ho
def xI.mono{X Y:jE T}(h:∀i Tt own g W,X i Tt own g W->Y i Tt own g W){i:Nat}{Tt:T}{own:Nat->Prop}{g:Goroutine}{W:World}(hl:xI P S X i Tt own g W):xI P S Y i Tt own g W:=by
 obtain⟨h1,h2,h3⟩:=hl;refine⟨h1,h2, λs hs hf=>?_⟩;have h4:=h3 s hs hf;have on:∀{i Tt own g W},On P S X i Tt own g W->On P S Y i Tt own g W:= λx=>On.mono h x
 by_cases hr:S.ret Tt=true
 .rw[aj hr]at h4⊢;exact h4
 .rw[aa hr]at h4⊢
  by_cases hk:S.fork Tt=true
  .rw[aj hk]at h4⊢;obtain⟨T',Tc,s',g',child,mX,dD,a1,a2,a3,a4,a5,a6,a7⟩:=h4;exact⟨T',Tc,s',g',child,mX,dD,a1,a2,a3,a4,a5,on a6, λk hk=>on (a7 k hk)⟩
  .rw[aa hk]at h4⊢;rcases h4 with h4|⟨hb,T',s',g',W',es,a1,a2,a3,a4,a5,a6,a7⟩
   .exact .inl h4
   .refine .inr ⟨hb,T',s',g',W',es,a1,a2,a3,a4,a5,a6,?_⟩;cases hkd:S.kind Tt<;>rw[hkd]at a7<;>dsimp only at a7⊢
    case pz=>exactλG hG hJ=>on (a7 G hG hJ)
    case pE=>obtain⟨G,b1,b2,b3⟩:=a7;exact⟨G,b1,b2,on b3⟩
    case done=>exact⟨a7.1,on a7.2⟩
    case join=>exactλG D Dc dD b1 b2 b3 b4 b5 b6 b7=>on (a7 G D Dc dD b1 b2 b3 b4 b5 b6 b7)
    all_goals exact on a7
def At.law{i:Nat}{Tt:T}{own:Nat->Prop}{g:Goroutine}{W:World}(h:At P S i Tt own g W):xI P S (At P S) i Tt own g W:=by obtain⟨X,hX,hx⟩:=h;exact xI.mono (λi Tt own g W hx=>⟨X,hX,hx⟩) (hX _ _ _ _ _ hx)
def At.intro{X:jE T}(hX:∀i Tt own g W,X i Tt own g W->xI P S (λi Tt own g W=>X i Tt own g W∨At P S i Tt own g W) i Tt own g W){i:Nat}{Tt:T}{own:Nat->Prop}{g:Goroutine}{W:World}(h:X i Tt own g W):At P S i Tt own g W:=by
 refine⟨λi Tt own g W=>X i Tt own g W∨At P S i Tt own g W, λi Tt own g W hx=>?_,.inl h⟩;rcases hx with hx|hx
 .exact hX _ _ _ _ _ hx
 .exact xI.mono (λ_ _ _ _ _ x=>.inr x) hx.law
end
end
section
structure gz(γ:Gh)(n:Nat)(i:Nat)(Z:fO)(own:Nat->Prop):Prop where
 own:∀b,own b->b<n∧∀l,fF l->lb l=b->γ.who l=.gK i
 cl:∀b k,Z.cl b k->Z.sy b∧γ.who (.obj b)=.pt∧∀a:Addr,a.block=b->a.off=k->γ.who (.cell a)=.gK i
 ro:∀b,Z.ro b->b<n∧∀l,fF l->lb l=b->γ.who l=.ro
 sy:∀b,Z.sy b->b<n∧(γ.who (.obj b)=.sy∨γ.who (.obj b)=.pt)
section
variable {γ:Gh} {n:Nat} {i j:Nat} {Z Z':fO} {own dD:Nat->Prop} {W W1:World}
def gz.kX(h:gz γ n i Z own){b:Nat}(hb:own b):γ.who (.obj b)=.gK i:=(h.own b hb).2 _ trivial rfl
def gz.QB(h:gz γ n i Z own){b:Nat}(hb:Z.ro b):γ.who (.obj b)=.ro:=(h.ro b hb).2 _ trivial rfl
def gz.rely(h:gz γ W.heap.size i Z own)(k:gz γ W.heap.size j Z' dD)(hij:i≠j)(hg:qK Z own W W1):dM Z' dD W W1:=by
 refine hg.rely (λb hb=>(k.own b hb).1) (λb hb=>⟨λhb'=>?_, λhb'=>?_⟩) (λb hb=>(k.ro b hb).1) (λb hb=>⟨λhb'=>?_, λhb'=>?_⟩) (λb hb=>?_) λb c hb=>?_
 .have :=(h.kX hb').symm.trans (k.kX hb);exact hij (Who.gK.inj this)
 .rcases(h.sy b hb').2 with e|e<;>(have :=e.symm.trans (k.kX hb);cases this)
 .have :=(h.kX hb').symm.trans (k.QB hb);cases this
 .rcases(h.sy b hb').2 with e|e<;>(have :=e.symm.trans (k.QB hb);cases this)
 .refine .inr ⟨(k.sy b hb).1, λhb'=>?_⟩;rcases(k.sy b hb).2 with e|e<;>(have :=(h.kX hb').symm.trans e;cases this)
 .obtain⟨h1,_,h2⟩:=k.cl b c hb
  by_cases hz:Z.sy b
  .refine .inl ⟨hz, λhb'=>?_⟩;have :=((h.cl b c hb').2.2 ⟨b,c,none⟩ rfl rfl).symm.trans (h2 ⟨b,c,none⟩ rfl rfl);exact hij (Who.gK.inj this)
  .refine .inr ⟨(k.sy b h1).1, λhb'=>?_,hz⟩;rcases(k.sy b h1).2 with e|e<;>(have :=(h.kX hb').symm.trans e;cases this)
open Classical in
noncomputable def grown(γ:Gh)(i:Nat)(n':Nat):Gh:={ γ with B:=n',who:= λl=>if fF l∧γ.B<=lb l then .gK i else γ.who l }
def ig{i n':Nat}{l:Loc}(h:fF l->lb l<γ.B):(grown γ i n').who l=γ.who l:=by unfold grown;dsimp only;rw[aa];rintro⟨h1,h2⟩;have :=h h1;omega
def zG{i n':Nat}{l:Loc}(h1:fF l)(h2:γ.B<=lb l):(grown γ i n').who l=.gK i:=by unfold grown;dsimp only;rw[aj ⟨h1,h2⟩]
def gz.keep(h:gz γ γ.B j Z' dD){i n':Nat}(hn:γ.B<=n'):gz (grown γ i n') n' j Z' dD:=by
 refine⟨λb hb=>⟨aK (h.own b hb).1 hn, λl hl e=>?_⟩, λb c hb=>⟨(h.cl b c hb).1,?_, λa e1 e2=>?_⟩, λb hb=>⟨aK (h.ro b hb).1 hn, λl hl e=>?_⟩, λb hb=>⟨aK (h.sy b hb).1 hn,?_⟩⟩
 .rw[ig λ_=>by rw[e];exact(h.own b hb).1];exact(h.own b hb).2 l hl e
 .rw[ig (l:=.obj b) λ_=>(h.sy b (h.cl b c hb).1).1];exact(h.cl b c hb).2.1
 .have hs:=(h.sy b (h.cl b c hb).1).1;rw[ig λ_=>by show a.block<γ.B;rw[e1];exact hs];exact(h.cl b c hb).2.2 a e1 e2
 .rw[ig λ_=>by rw[e];exact(h.ro b hb).1];exact(h.ro b hb).2 l hl e
 .rw[ig (l:=.obj b) λ_=>(h.sy b hb).1];exact(h.sy b hb).2
def gz.grow(h:gz γ W.heap.size i Z own)(hB:γ.B=W.heap.size)(hn:W.heap.size<=W1.heap.size):gz (grown γ i W1.heap.size) W1.heap.size i Z (grow own W W1):=by
 have hk:=gz.keep (i:=i) (n':=W1.heap.size) (by rw[hB];exact h) (by omega);refine⟨λb hb=>?_,hk.cl,hk.ro,hk.sy⟩;rcases hb with hb|⟨h1,h2⟩
 .exact hk.own b hb
 .exact⟨h2, λl hl e=>zG hl (by omega)⟩
def TI.private{t:Trace}(h:TI γ t)(hr:gz γ W.heap.size i Z own)(hB:γ.B=W.heap.size)(hn:W.heap.size<=W1.heap.size)(hl:γ.live i)(ha:(i=0∨γ.act i)∨Z.mute){es:Array Event}(he:∀e∈es,NY Z (cS.grow own W W1) e)(fn:FuncId)(pos:String):TI (grown γ i W1.heap.size) (t++MemOp.ofEvents i fn pos es):=by
 by_cases hmt:Z.mute
 .have hes:es= #[]:=by
   apply Array.eq_empty_of_size_eq_zero;apply bn;intro hne;have hp:0<es.size:=by omega
   exact(he es[0] (Array.getElem_mem hp)).1 hmt
  subst hes;have e:MemOp.ofEvents i fn pos #[]= #[]:=rfl;rw[e,Array.append_empty];have h1:TI { γ with who:=(grown γ i W1.heap.size).who } t:=h.Me λl hl=>ig hl
  refine⟨h1.gK,h1.ro,h1.sy,h1.lk, λj x hx hm=>?_,h1.ho,h1.nr,h1.nl⟩;have :=h1.new j x hx hm;show _<W1.heap.size;have hlt:lb x.loc<γ.B:=this;omega
 replace ha:=ha.resolve_right hmt;have hR:=hr.grow hB hn;have h1:TI { γ with who:=(grown γ i W1.heap.size).who } t:=h.Me λl hl=>ig hl
 refine TI.app (γ:={ γ with who:=(grown γ i W1.heap.size).who }) (B':=W1.heap.size) h1 (by show γ.B<=_;omega) hl (λop hop=>?_) (λop hop x hx=>?_) ha (λop hop a e=>?_)
 .obtain⟨e,_,rfl⟩:=mem_ofEvents hop;rfl
 .obtain⟨e,hem,rfl⟩:=mem_ofEvents hop;have hev:=(he e hem).2;obtain⟨loc,wr,sy⟩:=e;cases loc with
  |cell a=>
   obtain⟨hs,hor⟩:=hev;have hs:sy=false:=hs;subst hs
   have hx':x=⟨.cell a,wr,.plain⟩:=by
    have:(MemAct.ofEvent ⟨.cell a,wr,false⟩).touch?=some ⟨.cell a,wr,.plain⟩:=by cases wr<;>rfl
    rw[this]at hx;exact(aT hx).symm
   subst hx';rcases hor with hor|⟨hor,hw⟩|hor
   .exact⟨.inl ((hR.own _ hor).2 _ trivial rfl), λ_=>(hR.own _ hor).1⟩
   .exact⟨.inr (.inl ⟨(hR.ro _ hor).2 _ trivial rfl,hw⟩), λ_=>(hR.ro _ hor).1⟩
   .exact⟨.inl ((hR.cl _ _ hor).2.2 a rfl rfl), λ_=>(hR.sy _ (hR.cl _ _ hor).1).1⟩
  |obj r=>
   obtain⟨hs,hor⟩:=hev;have hs:sy=false:=hs;subst hs
   have hx':x=⟨.obj r,wr,.plain⟩:=by
    have:(MemAct.ofEvent ⟨.obj r,wr,false⟩).touch?=some ⟨.obj r,wr,.plain⟩:=by cases wr<;>rfl
    rw[this]at hx;exact(aT hx).symm
   subst hx';exact⟨.inl (hR.kX hor), λ_=>(hR.own _ hor).1⟩
  |mark m=>
   have hm:m=.noRoom:=hev;subst hm;exfalso;have:(MemAct.ofEvent ⟨.mark .noRoom,wr,sy⟩).touch?=none:=by cases wr<;>cases sy<;>rfl
   rw[this]at hx;cases hx
  |output=>exact hev.elim
  |goroutines=>exact hev.elim
 .obtain⟨e',hem,rfl⟩:=mem_ofEvents hop;have hev:=(he e' hem).2;obtain⟨loc,wr,sy⟩:=e';cases loc with
  |mark m=>
   have hm:m=.noRoom:=hev;subst hm;have:MemAct.ofEvent ⟨.mark .noRoom,wr,sy⟩=.mark .noRoom:=by cases wr<;>cases sy<;>rfl
   have e:MemAct.ofEvent ⟨.mark .noRoom,wr,sy⟩=.mark (.release a):=e;rw[this]at e;cases e
  |cell _=>
   have e:MemAct.ofEvent ⟨.cell _,wr,sy⟩=.mark (.release a):=e;cases wr<;>cases sy<;>cases e
  |obj _=>
   have e:MemAct.ofEvent ⟨.obj _,wr,sy⟩=.mark (.release a):=e;cases wr<;>cases sy<;>cases e
  |output=>exact hev.elim
  |goroutines=>exact hev.elim
end
end
section
structure QC(T:Type) where
 Tt:T
 own:Nat->Prop
 g:Goroutine
 W:World
 tr:Tr
inductive TS(T:Type) where
 |gK (x:QC T)
 |lv (k d:Nat)
def TS.stop?{T:Type}:TS T->Option T
 | .gK x=>some x.Tt
 | .lv _ _=>none
def stops{T:Type}(θ:Nat->TS T):Nat->Option T:= λi=>(θ i).stop?
def upd{α:Type}(f:Nat->α)(i:Nat)(a:α):Nat->α:= λj=>if j=i then a else f j
@[simp] theorem upd_same {α:Type} (f:Nat->α) (i:Nat) (a:α):upd f i a i=a:=aj rfl
def upd_ne{α:Type}{f:Nat->α}{i j:Nat}{a:α}(h:j≠i):upd f i a j=f j:=aa h
def Kind.plain:Kind->Bool
 | .atomic| .disable| .enable| .clock| .said| .sem=>true
 |_=>false
def Kind.iD(d:Nat):Kind->Nat
 | .disable=>d+1
 | .enable=>d-1
 |_=>d
structure Same{T Sh:Type}(S:Sys T Sh)(free:Sh->Prop)(s s':Sh):Prop where
 fM:S.fM s'=S.fM s
 kW:S.kW s'=S.kW s
 free:free s'↔free s
 J:∀G w,S.J s G w->S.J s' G w
 Dp:∀D Dc w,S.Dp s D Dc w->S.Dp s' D Dc w
structure pF{T Sh ρ:Type}(S:Sys T Sh)(AI:Nat->(Nat->Option T)->Sh->Prop)(free:Sh->Prop)(rk:Nat->(Nat->Option T)->Sh->ρ)(lt:ρ->ρ->Prop):Prop where
 wf:WellFounded lt
 fits:∀{n φ s i Tt},AI n φ s->i<n->φ i=some Tt->S.fits i Tt s∧S.quit Tt=false∧(S.fork Tt=true->i=0)∧(S.ret Tt=true->i=0)
 move:∀{n φ s i Tt T' s'},AI n φ s->i<n->φ i=some Tt->S.fork Tt=false->S.ret Tt=false->¬S.blk Tt s->S.mv i Tt s T' s'->
  AI n (upd φ i (if S.quit T' then none else some T')) s'∧lt (rk n (upd φ i (if S.quit T' then none else some T')) s') (rk n φ s)
 spawn:∀{n φ s Tt T' Tc s'},AI n φ s->φ 0=some Tt->S.fork Tt=true->S.sp Tt s T' Tc s'->
  AI (n+1) (upd (upd φ 0 (some T')) n (some Tc)) s'∧lt (rk (n+1) (upd (upd φ 0 (some T')) n (some Tc)) s') (rk n φ s)
 Ki:∀{n φ s Tt T' Tc s'},AI n φ s->φ 0=some Tt->S.fork Tt=true->S.sp Tt s T' Tc s'->
  Same S free s s'∧S.kW s≠none∧S.deaf Tt=0∧S.deaf T'=0∧S.deaf Tc=0∧S.past Tc=false∧S.quit T'=false∧S.quit Tc=false∧
  (∀b,(S.Z 0 T').ro b->(S.Z 0 Tt).ro b)∧(∀b,(S.Z 0 T').sy b->(S.Z 0 Tt).sy b)∧(∀b,(S.Z n Tc).ro b->(S.Z 0 Tt).ro b)∧(∀b,(S.Z n Tc).sy b->(S.Z 0 Tt).sy b)∧
  (∀b k,(S.Z 0 T').cl b k->(S.Z 0 T').sy b∧(S.Z 0 Tt).cl b k)∧(∀b k,(S.Z n Tc).cl b k->(S.Z n Tc).sy b∧(S.Z 0 Tt).cl b k∧¬(S.Z 0 T').cl b k)
 stay:∀{n φ s i Tt T' s'},AI n φ s->i<n->φ i=some Tt->¬S.blk Tt s->S.wakes Tt=false->(S.mv i Tt s T' s'∨∃Tc,S.sp Tt s T' Tc s')->∀j Tj,j<n->j≠i->φ j=some Tj->S.blk Tj s->S.blk Tj s'
 yc:∀Tt,S.fork Tt=true->S.wakes Tt=false∧∀s,¬S.blk Tt s
 iD:∀{n φ s i Tt T' s'},AI n φ s->i<n->φ i=some Tt->S.mv i Tt s T' s'->S.deaf T'=Kind.iD (S.deaf Tt) (S.kind Tt)
 plain:∀{n φ s i Tt T' s'},AI n φ s->i<n->φ i=some Tt->S.mv i Tt s T' s'->(S.kind Tt).plain=true->Same S free s s'∧S.Z i T'=S.Z i Tt∧S.past T'=S.past Tt
 pz:∀{n φ s i Tt T' s'},AI n φ s->i<n->φ i=some Tt->S.mv i Tt s T' s'->S.kind Tt=.pz->
  free s∧¬free s'∧S.fM s'=S.fM s∧S.kW s'=S.kW s∧S.kW s≠none∧S.deaf Tt=0∧(∀D Dc w,S.Dp s D Dc w->S.Dp s' D Dc w)∧S.Z i T'=S.Z i Tt∧S.past T'=S.past Tt∧S.quit T'=false
 pE:∀{n φ s i Tt T' s'},AI n φ s->i<n->φ i=some Tt->S.mv i Tt s T' s'->S.kind Tt=.pE->
  ¬free s∧S.fM s'=S.fM s∧S.kW s'=S.kW s∧S.kW s≠none∧S.deaf Tt=0∧(∀D Dc w,S.Dp s D Dc w->S.Dp s' D Dc w)∧S.Z i T'=S.Z i Tt∧S.past T'=S.past Tt∧S.quit T'=false
 done:∀{n φ s i Tt T' s'},AI n φ s->i<n->φ i=some Tt->S.mv i Tt s T' s'->S.kind Tt=.done->
  i≠0∧S.past Tt=false∧S.past T'=true∧S.deaf Tt=0∧S.fM s'=S.fM s∧S.kW s'=S.kW s∧S.kW s≠none∧(free s'↔free s)∧(∀G w,S.J s G w->S.J s' G w)∧
  (∀b,(S.Z i T').ro b->(S.Z i Tt).ro b)∧(∀b,(S.Z i T').sy b->(S.Z i Tt).sy b)∧(∀b k,¬(S.Z i T').cl b k)∧S.quit T'=false
 join:∀{n φ s i Tt T' s'},AI n φ s->i<n->φ i=some Tt->S.mv i Tt s T' s'->S.kind Tt=.join->
  i=0∧free s∧S.deaf Tt=0∧(∀j,j<n->j≠0->φ j=none)∧S.fM s'=none∧S.kW s'=none∧¬free s'∧(∀w,S.Dp s' (λ_=>False) (λ_ _=>False) w)∧
  (∀b,¬(S.Z 0 T').ro b)∧(∀b,¬(S.Z 0 T').sy b)∧(∀b k,¬(S.Z 0 T').cl b k)∧S.quit T'=false
 joined:∀{n φ s},AI n φ s->S.kW s=none->∀j,j<n->j≠0->φ j=none
 quits:∀{n φ s i Tt T' s'},AI n φ s->i<n->φ i=some Tt->S.mv i Tt s T' s'->S.quit T'=true->S.past T'=true∧i≠0
 FJ:∀{n φ s i Tt},AI n φ s->i<n->φ i=some Tt->(S.past Tt=true->i≠0∧(S.Z i Tt).mute∧S.kind Tt≠ .clock∧(S.kind Tt=.atomic->0<S.deaf Tt))∧(S.kind Tt=.said->i=0)
 alive:∀{n φ s},AI n φ s->∃i Tt,i<n∧φ i=some Tt∧¬S.blk Tt s
 Kj:∀Tt s,S.ret Tt=true->¬S.blk Tt s
 EC:∀s w d,S.Bb s w->S.Bb s (w.at d)
 vz:∀s w w',S.Bb s w->(∀b,S.syn b->tV w.heap[b]? w'.heap[b]?∧∀k,w'.cell? ⟨b,k,none⟩=w.cell? ⟨b,k,none⟩)->S.Bb s w'
 uA:∀s G w w',S.J s G w->(∀b,G b->w'.heap[b]?=w.heap[b]?)->S.J s G w'
 yf:∀s D Dc w w',S.Dp s D Dc w->(∀b,D b->w'.heap[b]?=w.heap[b]?)->(∀b i,Dc b i->w'.cell? ⟨b,i,none⟩=w.cell? ⟨b,i,none⟩)->S.Dp s D Dc w'
section
variable {T Sh:Type} (P:Program) (S:Sys T Sh) (AI:Nat->(Nat->Option T)->Sh->Prop) (free:Sh->Prop)
def One(w:World)(t:Trace)(s:Sh)(γ:Gh)(i:Nat)(g:Goroutine):TS T->Prop
 | .gK x=>(g=x.g∨(x.tr=.leaf∧S.blk x.Tt s∧g= { x.g with status:=.blocked }))∧Gr P (i==0) (S.Z i x.Tt) (At P S i x.Tt) x.tr x.own x.g x.W∧dM (S.Z i x.Tt) x.own x.W w∧
     Deaf t i=S.deaf x.Tt∧γ.live i∧(i≠0->(γ.act i↔S.past x.Tt=false))∧gz γ w.heap.size i (S.Z i x.Tt) x.own
 | .lv k d=>QuitsD P k d g∧Deaf t i=d∧i≠0∧¬γ.act i
structure MI(O:Nat->Prop)(gs:Array Goroutine)(w:World)(t:Trace)(θ:Nat->TS T)(s:Sh)(γ:Gh)(G D:Nat->Prop)(Dc:Nat->Nat->Prop):Prop where
 one:∀i g,gs[i]?=some g->One P S w t s γ i g (θ i)
 main:∃x,θ 0=.gK x
 pos:0<gs.size
 ai:AI gs.size (stops θ) s
 rep:S.Bb s w
 ti:TI γ t
 B:γ.B=w.heap.size
 nums:∀op∈t,op.g<gs.size
 syn:∀b,S.syn b∨O b->b<w.heap.size∧∀l,fF l->lb l=b->γ.who l=.sy
 uh:∀l,¬fF l->γ.who l=.fr
 memo:∀l,fF l->γ.who l≠ .fr∧(γ.who l=.sy->S.syn (lb l)∨O (lb l))
 yg:∀i,γ.act i->i<gs.size
 jn:S.kW s=none->∀l,fF l->¬(S.syn (lb l)∨O (lb l))->γ.who l=.gK 0
 fM:γ.lock=S.fM s
 kW:γ.wg=S.kW s
 lk:free s->S.J s G w∧∀b,G b->b<w.heap.size∧∀l,fF l->lb l=b->γ.who l=.lk
 dn:S.Dp s D Dc w∧(∀b,D b->b<w.heap.size∧∀l,fF l->lb l=b->γ.who l=.dn)∧∀b k,Dc b k->b<w.heap.size∧γ.who (.obj b)=.pt∧∀a:Addr,a.block=b->a.off=k->γ.who (.cell a)=.dn
end
end
section
variable {O:Nat->Prop}
section
variable {T Sh ρ:Type} {P:Program} {S:Sys T Sh} {AI:Nat->(Nat->Option T)->Sh->Prop} {free:Sh->Prop} {rk:Nat->(Nat->Option T)->Sh->ρ} {lt:ρ->ρ->Prop}
def Gr.running{main:Bool}{Z:fO}{Stop:(Nat->Prop)->Goroutine->World->Prop}(hst:∀own g W,Stop own g W->g.status=.running){tr:Tr}{own:Nat->Prop}{g:Goroutine}{W:World}(h:Gr P main Z Stop tr own g W):g.status=.running:=by
 cases tr with
 |leaf=>exact hst _ _ _ (h W (dM.refl W))
 |node f=>exact h.1
def jk{i:Nat}{Tt:T}{own:Nat->Prop}{g:Goroutine}{W:World}(h:At P S i Tt own g W):g.status=.running:=h.law.1
def ED{i:Nat}{Tt:T}{own:Nat->Prop}{g:Goroutine}{W:World}(h:At P S i Tt own g W){s:Sh}(hb:S.blk Tt s):g.offers=none:=h.law.2.1 ⟨s,hb⟩
def Mf{Z:fO}{own:Nat->Prop}(w:World)(d:Nat):dM Z own w (w.at d):=⟨rfl,rfl,OsLater.refl _,aJ _, λ_ _=>rfl, λ_ _=>rfl, λ_ _=>tV.refl _, λ_ _ _=>rfl⟩
def uB{gs:Array Goroutine}{i j:Nat}{f:Goroutine->Goroutine}{g' gj:Goroutine}(h:((gs.map f).setIfInBounds i g')[j]?=some gj):(j=i∧gj=g'∧i<gs.size)∨(j≠i∧∃g0,gs[j]?=some g0∧gj=f g0):=by
 by_cases e:i=j
 .subst e;have hlt:=(aI.1 h).1;simp only[Array.size_setIfInBounds,Array.size_map]at hlt;rw[aD (by simpa using hlt)]at h;exact .inl ⟨rfl,(aT h).symm,hlt⟩
 .rw[au e,aG]at h;cases hg:gs[j]? with
  |none=>rw[hg]at h;cases h
  |some g0=>rw[hg]at h;exact .inr ⟨Ne.symm e,g0,rfl,(aT h).symm⟩
def EE{w w2:World}{t:Trace}{s:Sh}{γ:Gh}{j:Nat}{gj g g':Goroutine}{yh:TS T}(h:One P S w t s γ j gj yh):One P S w t s γ j (woken P g g' w2 gj) yh:=by
 cases yh with
 |lv k d=>obtain⟨h1,h2⟩:=h;exact⟨by rw[woken_quitsD h1];exact h1,h2⟩
 |gK x=>
  obtain⟨h1,h2,h3⟩:=h;have hrun:x.g.status=.running:=h2.running λ_ _ _=>jk
  refine⟨?_,h2,h3⟩;rcases h1 with rfl|⟨hl,hb,rfl⟩
  .left;unfold woken;split
   .exact again_running _ (.inl hrun)
   .rfl
  .have hoff:x.g.offers=none:=by
    rw[hl]at h2;exact ED (h2 x.W (dM.refl _)) hb
   unfold woken;split
   .exact .inl (again_blocked hrun hoff _)
   .exact .inr ⟨hl,hb,rfl⟩
def QD{Z:fO}{own:Nat->Prop}{es:Array Event}(h:∀e∈es,NY Z own e):∀e∈es,e.loc≠ .mark .disable∧e.loc≠ .mark .enable:=by
 intro e he;have :=(h e he).2;obtain⟨loc,wr,sy⟩:=e;cases loc with
 |mark m=>
  have hm:m=.noRoom:=this;subst hm;exact⟨by simp,by simp⟩
 |_=>exact⟨by simp,by simp⟩
def Og{w w':World}{t u:Trace}{s:Sh}{γ:Gh}{i j:Nat}{gj:Goroutine}{yh:TS T}{Z:fO}{own:Nat->Prop}(hj:j≠i)(hu:∀op∈u,op.g=i)(hB:γ.B=w.heap.size)(hR:gz γ w.heap.size i Z own)(hg:qK Z own w w')
 (h:One P S w t s γ j gj yh):One P S w' (t++u) s (grown γ i w'.heap.size) j gj yh:=by
 cases yh with
 |lv k d=>
  obtain⟨h1,h2,h3,h4⟩:=h;exact⟨h1,by rw[Deaf_other t (Ne.symm hj) u hu];exact h2,h3,h4⟩
 |gK x=>
  obtain⟨h1,h2,h3,h4,h5,h6,h7⟩:=h;have hk:=gz.keep (i:=i) (n':=w'.heap.size) (by rw[hB];exact h7) (by rw[hB];exact hg.size);exact⟨h1,h2,h3.trans (hR.rely h7 (Ne.symm hj) hg),by rw[Deaf_other t (Ne.symm hj) u hu];exact h4,h5,h6,hk⟩
def MI.at{gs:Array Goroutine}{w:World}{t:Trace}{θ:Nat->TS T}{s:Sh}{γ:Gh}{G D:Nat->Prop}{Dc:Nat->Nat->Prop}(ok:pF S AI free rk lt)(h:MI P S AI free O gs w t θ s γ G D Dc)(d:Nat):MI P S AI free O gs (w.at d) t θ s γ G D Dc:=by
 refine⟨λi g hi=>?_,h.main,h.pos,h.ai,ok.EC s w d h.rep,h.ti,h.B,h.nums,h.syn,h.uh,h.memo,h.yg,h.jn,h.fM,h.kW, λhf=>⟨ok.uA s G w (w.at d) (h.lk hf).1 λ_ _=>rfl,(h.lk hf).2⟩,ok.yf s D Dc w (w.at d) h.dn.1 (λ_ _=>rfl) (λ_ _ _=>rfl),h.dn.2⟩;have :=h.one i g hi;cases sM:θ i with
 |lv k d=>rw[sM]at this;exact this
 |gK x=>
  rw[sM]at this;obtain⟨h1,h2,h3,h4,h5,h6,h7⟩:=this;exact⟨h1,h2,h3.trans (Mf w d),h4,h5,h6,h7⟩
def uC{t:Trace}{n i:Nat}(h:∀op∈t,op.g<n)(hi:i<n)(fn:FuncId)(pos:String)(es:Array Event):∀op∈t++MemOp.ofEvents i fn pos es,op.g<n:=by
 intro op hop;rcases Array.mem_append.1 hop with hop|hop
 .exact h op hop
 .obtain⟨e,_,rfl⟩:=mem_ofEvents hop;exact hi
def MI.private{gs:Array Goroutine}{w:World}{t:Trace}{θ:Nat->TS T}{s:Sh}{γ:Gh}{G D:Nat->Prop}{Dc:Nat->Nat->Prop}(ok:pF S AI free rk lt)(h:MI P S AI free O gs w t θ s γ G D Dc)
 {i:Nat} {g:Goroutine} (hi:gs[i]?=some g) {x:QC T} (hx:θ i=.gK x) {f:World->Tr} (htr:x.tr=.node f):
 ∃g' w' es,stepG P (i==0) g w=.go g' w' es∧MI P S AI free O ((gs.map (woken P g g' w')).setIfInBounds i g') w' (t++MemOp.ofEvents i g.frame.fn g.frame.place es)
  (upd θ i (.gK { x with own:=grow x.own w w',g:=g',W:=w',tr:=f w })) s (grown γ i w'.heap.size) G D Dc:=by
 have h1:=h.one i g hi;rw[hx]at h1;obtain⟨hgx,Mg,Cm,kT,lG,zH,dV⟩:=h1
 have hgx:g=x.g:=by
  rcases hgx with e|⟨e,_⟩
  .exact e
  .rw[htr]at e;cases e
 subst hgx;have hlt:=(aI.1 hi).1
 have hact:(i=0∨γ.act i)∨(S.Z i x.Tt).mute:=by
  by_cases h0:i=0
  .exact .inl (.inl h0)
  .cases hp:S.past x.Tt with
   |false=>exact .inl (.inr ((zH h0).2 hp))
   |true=>
    have hφ:stops θ i=some x.Tt:=by unfold stops;rw[hx];rfl
    exact .inr ((ok.FJ h.ai hlt hφ).1 hp).2.1
 rw[htr]at Mg;obtain⟨hrun,hstep⟩:=Mg;obtain⟨g',w',es,hgo,mH,hev,hnext⟩:=hstep w Cm;have hu:∀op∈MemOp.ofEvents i x.g.frame.fn x.g.frame.place es,op.g=i:= λop hop=>by obtain⟨e,_,rfl⟩:=mem_ofEvents hop;rfl
 have hkeep:∀b,b<w.heap.size->¬x.own b->¬(S.Z i x.Tt).sy b->w'.heap[b]?=w.heap[b]?:= λb h1 h2 h3=>mH.rest b h1 h2 h3
 have UC:∀b,γ.who (.obj b)≠ .gK i->¬x.own b:= λb hb ho=>hb (dV.kX ho)
 have Uc:∀b,γ.who (.obj b)≠ .sy->γ.who (.obj b)≠ .pt->¬(S.Z i x.Tt).sy b:= λb hb hb' ho=>(dV.sy b ho).2.elim hb hb'
 refine⟨g',w',es,hgo,⟨λj gj hj=>?_,?_,?_,?_,?_,?_,?_,?_, λb hb=>?_, λl hl=>?_, λl hl=>?_, λk hk=>?_, λhj l hl hns=>?_,h.fM,h.kW, λhf=>?_,?_⟩⟩
 .rcases uB hj with⟨rfl,rfl,_⟩|⟨hne,g0,hg0,rfl⟩
  .rw[upd_same];exact⟨.inl rfl,hnext,dM.refl _,by rw[Deaf_own,deafBehind_still (QD hev)];exact kT,lG,zH,dV.grow h.B mH.size⟩
  .rw[upd_ne hne];exact Og hne hu h.B dV mH (EE (h.one j g0 hg0))
 .obtain⟨y,hy⟩:=h.main
  by_cases h0:(0:Nat)=i
  .subst h0;exact⟨_,upd_same ..⟩
  .exact⟨y,by rw[upd_ne h0];exact hy⟩
 .simpa using h.pos
 .have e:stops (upd θ i (.gK { x with own:=grow x.own w w',g:=g',W:=w',tr:=f w }))=stops θ:=by
   funext j;unfold stops
   by_cases hj:j=i
   .subst hj;rw[upd_same,hx];rfl
   .rw[upd_ne hj]
  rw[e];simpa using h.ai
 .refine ok.vz s w w' h.rep λb hb=>?_
  obtain⟨h1,h2⟩:=h.syn b (.inl hb);have hw:=h2 (.obj b) trivial rfl
  by_cases hz:(S.Z i x.Tt).sy b
  .refine⟨(mH.sy b hz).1, λk=>(mH.sy b hz).2 k λhc=>?_⟩;have :=((dV.cl b k hc).2.2 ⟨b,k,none⟩ rfl rfl).symm.trans (h2 (.cell ⟨b,k,none⟩) trivial rfl);cases this
  .have :=hkeep b h1 (UC b (by rw[hw];simp)) hz;refine⟨by rw[this];exact tV.refl _, λk=>?_⟩;unfold World.cell?;simp only[this]
 .exact h.ti.private dV h.B mH.size lG hact hev _ _
 .rfl
 .simpa using uC h.nums hlt _ _ _
 .obtain⟨h1,h2⟩:=h.syn b hb;exact⟨aK h1 mH.size, λl hl e=>by rw[ig λ_=>by rw[e,h.B];exact h1];exact h2 l hl e⟩
 .rw[ig λhm=>absurd hm hl];exact h.uh l hl
 .rcases bq (lb l) γ.B with hlt'|hge
  .rw[ig λ_=>hlt'];exact h.memo l hl
  .rw[zG hl hge];exact⟨by simp,by simp⟩
 .simpa using h.yg k hk
 .rcases bq (lb l) γ.B with hlt'|hge
  .rw[ig λ_=>hlt'];exact h.jn hj l hl hns
  .rw[zG hl hge]
   have h0:i=0:=by apply bn;intro h0;have :=ok.joined h.ai hj i hlt h0;unfold stops at this;rw[hx]at this;cases this
   rw[h0]
 .obtain⟨h1,h2⟩:=h.lk hf;refine⟨ok.uA s G w w' h1 λb hb=>?_, λb hb=>⟨aK (h2 b hb).1 mH.size, λl hl e=>?_⟩⟩
  .have hw:=(h2 b hb).2 (.obj b) trivial rfl;exact hkeep b (h2 b hb).1 (UC b (by rw[hw];simp)) (Uc b (by rw[hw];simp) (by rw[hw];simp))
  .rw[ig λ_=>by rw[e,h.B];exact(h2 b hb).1];exact(h2 b hb).2 l hl e
 .obtain⟨h1,h2,h3⟩:=h.dn;refine⟨ok.yf s D Dc w w' h1 (λb hb=>?_) (λb k hb=>?_), λb hb=>⟨aK (h2 b hb).1 mH.size, λl hl e=>?_⟩, λb k hb=>⟨aK (h3 b k hb).1 mH.size,?_, λa e1 e2=>?_⟩⟩
  .have hw:=(h2 b hb).2 (.obj b) trivial rfl;exact hkeep b (h2 b hb).1 (UC b (by rw[hw];simp)) (Uc b (by rw[hw];simp) (by rw[hw];simp))
  .obtain⟨g1,g2,g3⟩:=h3 b k hb
   by_cases hz:(S.Z i x.Tt).sy b
   .refine(mH.sy b hz).2 k λhc=>?_
    have :=((dV.cl b k hc).2.2 ⟨b,k,none⟩ rfl rfl).symm.trans (g3 ⟨b,k,none⟩ rfl rfl);cases this
   .have :=hkeep b g1 (UC b (by rw[g2];simp)) hz;unfold World.cell?;simp only[this]
  .rw[ig λ_=>by rw[e,h.B];exact(h2 b hb).1];exact(h2 b hb).2 l hl e
  .rw[ig (l:=.obj b) λ_=>by rw[h.B];exact(h3 b k hb).1];exact(h3 b k hb).2.1
  .rw[ig (l:=.cell a) λ_=>by rw[h.B];show a.block<_;rw[e1];exact(h3 b k hb).1];exact(h3 b k hb).2.2 a e1 e2
def Oh{w:World}{t u:Trace}{s:Sh}{γ:Gh}{i j:Nat}{gj:Goroutine}{yh:TS T}(hj:j≠i)(hu:∀op∈u,op.g=i)(h:One P S w t s γ j gj yh):One P S w (t++u) s γ j gj yh:=by
 cases yh with
 |lv k d=>
  obtain⟨h1,h2,h3,h4⟩:=h;exact⟨h1,by rw[Deaf_other t (Ne.symm hj) u hu];exact h2,h3,h4⟩
 |gK x=>
  obtain⟨h1,h2,h3,h4,h5,h6,h7⟩:=h;exact⟨h1,h2,h3,by rw[Deaf_other t (Ne.symm hj) u hu];exact h4,h5,h6,h7⟩
def yj{e:Event}(h:e.mute=true)(a:Addr):MemAct.ofEvent e≠ .mark (.release a):=by obtain⟨loc,wr,sy⟩:=e;cases loc<;>simp_all[Event.mute];rename_i m;cases m<;>simp_all[MemAct.ofEvent]
def MI.leaver{gs:Array Goroutine}{w:World}{t:Trace}{θ:Nat->TS T}{s:Sh}{γ:Gh}{G D:Nat->Prop}{Dc:Nat->Nat->Prop}(h:MI P S AI free O gs w t θ s γ G D Dc)
 {i:Nat} {g:Goroutine} (hi:gs[i]?=some g) {k d:Nat} (hx:θ i=.lv k d) (hrun:g.status=.running):
 ∃k' d' g' es,k=k'+1∧stepG P (i==0) g w=.go g' w es∧MI P S AI free O ((gs.map (woken P g g' w)).setIfInBounds i g') w (t++MemOp.ofEvents i g.frame.fn g.frame.place es) (upd θ i (.lv k' d')) s γ G D Dc:=by
 have h1:=h.one i g hi;rw[hx]at h1;obtain⟨hq,hd,h0,hna⟩:=h1;have hlt:=(aI.1 hi).1;have e0:(i==0)=false:=by simpa using h0
 cases k with
 |zero=>rw[hq.1]at hrun;cases hrun
 |succ k=>
  rcases hq with⟨hq,_⟩|⟨_,g',es,hm,hst,hq⟩
  .rw[hq]at hrun;cases hrun
  .have hu:∀op∈MemOp.ofEvents i g.frame.fn g.frame.place es,op.g=i:= λop hop=>by obtain⟨e,_,rfl⟩:=mem_ofEvents hop;rfl
   refine⟨k,deafBehind d es,g',es,rfl,by rw[e0];exact hst w,⟨λj gj hj=>?_,?_,by simpa using h.pos,?_,h.rep,?_,h.B,by simpa using uC h.nums hlt _ _ _,h.syn,h.uh,h.memo, λk hk=>by simpa using h.yg k hk,h.jn,h.fM,h.kW,h.lk,h.dn⟩⟩
   .rcases uB hj with⟨rfl,rfl,_⟩|⟨hne,g0,hg0,rfl⟩
    .rw[upd_same];exact⟨hq,by rw[Deaf_own,hd],h0,hna⟩
    .rw[upd_ne hne];exact Oh hne hu (EE (h.one j g0 hg0))
   .obtain⟨y,hy⟩:=h.main;exact⟨y,by rw[upd_ne (Ne.symm h0)];exact hy⟩
   .have e:stops (upd θ i (.lv k (deafBehind d es)))=stops θ:=by
     funext j;unfold stops
     by_cases hj:j=i
     .subst hj;rw[upd_same,hx];rfl
     .rw[upd_ne hj]
    rw[e];simpa using h.ai
   .exact h.ti.Kh (λop hop=>by obtain⟨e,he,rfl⟩:=mem_ofEvents hop;exact touch_mute (hm e he)) (λop hop a=>by obtain⟨e,he,rfl⟩:=mem_ofEvents hop;exact yj (hm e he) a)
def MI.waits{gs:Array Goroutine}{w:World}{t:Trace}{θ:Nat->TS T}{s:Sh}{γ:Gh}{G D:Nat->Prop}{Dc:Nat->Nat->Prop}(h:MI P S AI free O gs w t θ s γ G D Dc)
 {i:Nat} {x:QC T} (hi:gs[i]?=some x.g) (hx:θ i=.gK x) (hl:x.tr=.leaf) (hb:S.blk x.Tt s):
 MI P S AI free O (gs.setIfInBounds i { x.g with status:=.blocked }) w t θ s γ G D Dc:=by
 refine⟨λj gj hj=>?_,h.main,by simpa using h.pos,by simpa using h.ai,h.rep,h.ti,h.B,by simpa using h.nums,h.syn,h.uh,h.memo, λk hk=>by simpa using h.yg k hk,h.jn,h.fM,h.kW,h.lk,h.dn⟩;have hj':((gs.map id).setIfInBounds i { x.g with status:=.blocked })[j]?=some gj:=by simpa using hj
 rcases uB hj' with⟨rfl,rfl,_⟩|⟨hne,g0,hg0,hgj⟩
 .have h1:=h.one j x.g hi;rw[hx]at h1⊢;obtain⟨_,h2⟩:=h1;exact⟨.inr ⟨hl,hb,rfl⟩,h2⟩
 .have:gj=g0:=hgj;rw[this];exact h.one j g0 hg0
end
end
section
variable {O:Nat->Prop}
def Cn{t:Trace}{g:Nat}:∀(l:List MemOp),(∀op∈l,op.act≠ .mark .disable∧op.act≠ .mark .enable)->∀m,m<=l.length->(t++(⟨l⟩:Trace)).deaf g (t.size+m)=Deaf t g:=by
 intro l hl m
 induction m with
 |zero=>intro _;exact deaf_old (aJ _)
 |succ m ih=>
  intro hm;have hlt:m<l.length:=by omega
  have hget:(t++(⟨l⟩:Trace))[t.size+m]?=some l[m]:=by rw[Array.getElem?_append_right (by omega)];simp[hlt]
  rw[<-Nat.add_assoc,deaf_succ hget,ih (by omega)];obtain⟨h1,h2⟩:=hl l[m] (aX hlt);unfold deafStep;split
  .rename_i h;exact absurd h h1
  .rename_i h;exact absurd h h2
  .rfl
section
variable {T Sh ρ:Type} {P:Program} {S:Sys T Sh} {AI:Nat->(Nat->Option T)->Sh->Prop} {free:Sh->Prop} {rk:Nat->(Nat->Option T)->Sh->ρ} {lt:ρ->ρ->Prop}
def Oi{γ:Gh}{w w':World}{j:Nat}{Z:fO}{own:Nat->Prop}(vP:∀b,S.syn b->b<w.heap.size∧∀l,fF l->lb l=b->γ.who l=.sy)(h:gz γ w.heap.size j Z own)(hst:dS S w w'):dM Z own w w':=by
 refine⟨hst.tape,hst.out,hst.os,by rw[hst.size];exact aJ _, λb hb=>hst.rest b λhs=>?_, λb hb=>hst.rest b λhs=>?_, λb hb=>?_, λb k hb=>?_⟩
 .have :=((vP b hs).2 (.obj b) trivial rfl).symm.trans (h.kX hb);cases this
 .have :=((vP b hs).2 (.obj b) trivial rfl).symm.trans (h.QB hb);cases this
 .by_cases hs:S.syn b
  .exact hst.tV b hs
  .rw[hst.rest b hs];exact tV.refl _
 .have:¬S.syn b:= λhs=>by
   have :=((vP b hs).2 (.cell ⟨b,k,none⟩) trivial rfl).symm.trans ((h.cl b k hb).2.2 ⟨b,k,none⟩ rfl rfl);cases this
  unfold World.cell?;simp only[hst.rest b this]
def gz.size{γ:Gh}{n n':Nat}(e:n'=n){i:Nat}{Z:fO}{own:Nat->Prop}(h:gz γ n i Z own):gz γ n' i Z own:=e ▸ h
def TI.Oj{t:Trace}{γ:Gh}{i:Nat}{w:World}{s:Sh}{k:Kind}{es:Array Event}(h:TI γ t)(hB:γ.B=w.heap.size)(vP:∀b,S.syn b->b<w.heap.size∧∀l,fF l->lb l=b->γ.who l=.sy)(hno:∀l,¬fF l->γ.who l=.fr)
 (hl:γ.live i) (hk:k.plain=true) (he:PN S s k es) (hp:(i=0∨γ.act i)∨(k≠ .clock∧(k=.atomic->0<Deaf t i))) (hsaid:k=.said->i=0) (fn:FuncId) (pos:String):TI γ (t++MemOp.ofEvents i fn pos es):=by
 have marks:∀m:Mark,(∀a,m≠ .read a∧m≠ .write a∧m≠ .release a)->es= #[⟨.mark m,false,true⟩]->TI γ (t++MemOp.ofEvents i fn pos es):=by
  intro m hm e;subst e;refine h.Kh (λop hop=>?_) (λop hop a=>?_)
  .obtain⟨e,he,rfl⟩:=mem_ofEvents hop;simp at he;subst he;have:(MemAct.ofEvent ⟨.mark m,false,true⟩)=.mark m:=rfl;simp only[this];cases m<;>first|rfl|exact absurd rfl (hm _).1|exact absurd rfl (hm _).2.1
  .obtain⟨e,he,rfl⟩:=mem_ofEvents hop;simp at he;subst he;intro hx;have hx:MemAct.mark m=.mark (.release a):=hx;cases hx;exact(hm a).2.2 rfl
 have hg:∀op∈MemOp.ofEvents i fn pos es,op.g=i:= λop hop=>by obtain⟨e,_,rfl⟩:=mem_ofEvents hop;rfl
 cases k with
 |disable=>exact marks .disable (λa=>⟨by simp,by simp,by simp⟩) he
 |enable=>exact marks .enable (λa=>⟨by simp,by simp,by simp⟩) he
 |atomic=>
  have he:∀e∈es,∃a,e.loc=.cell a∧e.sync=true∧S.syn a.block:=he
  have Hb:∀op∈MemOp.ofEvents i fn pos es,∃a wr,op.act=.access ⟨.cell a,wr,true⟩∧S.syn a.block:=by intro op hop;obtain⟨e,hem,rfl⟩:=mem_ofEvents hop;obtain⟨a,h1,h2,h3⟩:=he e hem;obtain⟨loc,wr,sy⟩:=e;simp only at h1 h2;subst h1 h2;exact⟨a,wr,by cases wr<;>rfl,h3⟩
  have hrel:∀op∈MemOp.ofEvents i fn pos es,∀a,op.act≠ .mark (.release a):=by intro op hop a e;obtain⟨b,wr,h1,_⟩:=Hb op hop;rw[h1]at e;cases e
  rcases hp with hp|⟨_,hp⟩
  .have :=h.app (B':=γ.B) (aJ _) hl hg (λop hop x hx=>?_) hp hrel
   .exact this
   .obtain⟨a,wr,h1,h2⟩:=Hb op hop;rw[h1]at hx;have:x=⟨.cell a,wr,.atomic⟩:=(aT hx).symm;subst this;exact⟨.inr (.inr (.inl ⟨(vP _ h2).2 _ trivial rfl,by simp,by simp⟩)), λ_=>by rw[hB];exact(vP _ h2).1⟩
  .refine h.Md hl hg (λop hop x hx=>?_) (λp op hge hop hp' hc=>?_) hrel
   .obtain⟨a,wr,h1,h2⟩:=Hb op hop;rw[h1]at hx;have:x=⟨.cell a,wr,.atomic⟩:=(aT hx).symm;subst this;exact⟨(vP _ h2).2 _ trivial rfl,rfl, λ_=>by rw[hB];exact(vP _ h2).1⟩
   .obtain⟨a,wr,h1,h2⟩:=Hb op hop;obtain⟨x,hx,_,hor⟩:=hc;have hx':touchAt (t++MemOp.ofEvents i fn pos es) p=some x:=hx;rw[touchAt_of hp',h1]at hx';have:x=⟨.cell a,wr,.atomic⟩:=(aT hx').symm;subst this;rcases hor with hor|⟨g',hg1,hg2⟩
    .exact hor rfl
    .have hgi:g'=i:=by
      have:(t++MemOp.ofEvents i fn pos es).g? p=some op.g:=by simp[Trace.g?,hp']
      rw[this]at hg1;exact(aT hg1).symm.trans (hg op hop)
     subst hgi;have hd:=hp rfl;obtain⟨m,rfl⟩:=Nat.exists_eq_add_of_le hge
     have hm:m<=(MemOp.ofEvents g' fn pos es).toList.length:=by have :=lt_size_of_getElem? hp';simp at this⊢;omega
     have :=Cn (t:=t) (g:=g') (MemOp.ofEvents g' fn pos es).toList (λop hop=>?_) m hm
     .rw[show(⟨(MemOp.ofEvents g' fn pos es).toList⟩:Trace)=MemOp.ofEvents g' fn pos es from rfl,hg2]at this;omega
     .obtain⟨a,wr,h1,_⟩:=Hb op (by simpa using hop);rw[h1];exact⟨by simp,by simp⟩
 |clock=>
  have he:∀e∈es,e.loc=.output:=he;rcases hp with hp|⟨hp,_⟩
  .have :=h.app (B':=γ.B) (aJ _) hl hg (λop hop x hx=>?_) hp (λop hop a e=>?_)
   .exact this
   .obtain⟨e,hem,rfl⟩:=mem_ofEvents hop;have :=he e hem;obtain⟨loc,wr,sy⟩:=e;simp only at this;subst this
    have hx1:x.loc=.output:=by
     have:(MemAct.ofEvent ⟨.output,wr,sy⟩).touch?=some ⟨.output,wr,if sy then .atomic else .plain⟩:=by cases wr<;>cases sy<;>rfl
     rw[this]at hx;rw[<-aT hx]
    exact⟨.inr (.inr (.inr ⟨by rw[hx1];exact hno _ (λx=>x),by rw[hx1];exactλx=>x⟩)), λhm=>by rw[hx1]at hm;exact hm.elim⟩
   .obtain⟨e',hem,rfl⟩:=mem_ofEvents hop;have :=he e' hem;obtain⟨loc,wr,sy⟩:=e';simp only at this;subst this;cases wr<;>cases sy<;>cases e
  .exact absurd rfl hp
 |sem=>
  obtain⟨a,ha,rfl⟩:∃a:Addr,S.syn a.block∧es= #[⟨.mark .disable,false,true⟩,⟨.cell a,false,true⟩,⟨.cell a,true,true⟩,⟨.mark .enable,false,true⟩]:=he
  have e:t++MemOp.ofEvents i fn pos #[⟨.mark .disable,false,true⟩,⟨.cell a,false,true⟩,⟨.cell a,true,true⟩,⟨.mark .enable,false,true⟩]=
   ((t++ #[{ g:=i,fn:=fn,pos:=pos,act:=.mark .disable }])++ #[{ g:=i,fn:=fn,pos:=pos,act:=.access ⟨.cell a,false,true⟩ },{ g:=i,fn:=fn,pos:=pos,act:=.access ⟨.cell a,true,true⟩ }])++ #[{ g:=i,fn:=fn,pos:=pos,act:=.mark .enable }]:=by
   rw[ofEvents_eq];apply Array.ext';simp[MemAct.ofEvent]
  rw[e];have h1:TI γ (t++ #[{ g:=i,fn:=fn,pos:=pos,act:=.mark .disable }]):=h.still rfl (by simp)
  have hd1:Deaf (t++ #[{ g:=i,fn:=fn,pos:=pos,act:=.mark .disable }]) i=Deaf t i+1:=by rw[Deaf_push];unfold deafStep;simp
  refine TI.still ?_ rfl (by simp)
  generalize t++ #[{ g:=i,fn:=fn,pos:=pos,act:=.mark .disable }]=t1 at h1 hd1;refine h1.Md hl (λop hop=>?_) (λop hop x hx=>?_) (λp op hge hop hp' hc=>?_) (λop hop b e=>?_)
  .have:op= { g:=i,fn:=fn,pos:=pos,act:=.access ⟨.cell a,false,true⟩ }∨op= { g:=i,fn:=fn,pos:=pos,act:=.access ⟨.cell a,true,true⟩ }:=by simpa using hop
   rcases this with rfl|rfl<;>rfl
  .have:op= { g:=i,fn:=fn,pos:=pos,act:=.access ⟨.cell a,false,true⟩ }∨op= { g:=i,fn:=fn,pos:=pos,act:=.access ⟨.cell a,true,true⟩ }:=by simpa using hop
   rcases this with rfl|rfl
   .have:x=⟨.cell a,false,.atomic⟩:=(aT hx).symm;subst this;exact⟨(vP _ ha).2 _ trivial rfl,rfl, λ_=>by rw[hB];exact(vP _ ha).1⟩
   .have:x=⟨.cell a,true,.atomic⟩:=(aT hx).symm;subst this;exact⟨(vP _ ha).2 _ trivial rfl,rfl, λ_=>by rw[hB];exact(vP _ ha).1⟩
  .have two:op= { g:=i,fn:=fn,pos:=pos,act:=.access ⟨.cell a,false,true⟩ }∨op= { g:=i,fn:=fn,pos:=pos,act:=.access ⟨.cell a,true,true⟩ }:=by simpa using hop
   have og:op.g=i:=by rcases two with rfl|rfl<;>rfl
   obtain⟨x,hx,_,hor⟩:=hc;have hx':touchAt (t1++ #[{ g:=i,fn:=fn,pos:=pos,act:=.access ⟨.cell a,false,true⟩ },{ g:=i,fn:=fn,pos:=pos,act:=.access ⟨.cell a,true,true⟩ }]) p=some x:=hx;rw[touchAt_of hp']at hx'
   have hxk:x.kind=.atomic:=by
    rcases two with rfl|rfl
    .rw[<-aT hx'];rfl
    .rw[<-aT hx'];rfl
   rcases hor with hor|⟨g',hg1,hg2⟩
   .exact hor hxk
   .have hgi:g'=i:=by
     have:Trace.g? (t1++ #[{ g:=i,fn:=fn,pos:=pos,act:=.access ⟨.cell a,false,true⟩ },{ g:=i,fn:=fn,pos:=pos,act:=.access ⟨.cell a,true,true⟩ }]) p=some op.g:=by simp[Trace.g?,hp']
     rw[this]at hg1;exact(aT hg1).symm.trans og
    subst hgi;obtain⟨m,rfl⟩:=Nat.exists_eq_add_of_le hge
    have hm:m<= [({ g:=g',fn:=fn,pos:=pos,act:=.access ⟨.cell a,false,true⟩ }:MemOp),{ g:=g',fn:=fn,pos:=pos,act:=.access ⟨.cell a,true,true⟩ }].length:=by have :=lt_size_of_getElem? hp';simp at this⊢;omega
    have :=Cn (t:=t1) (g:=g') [({ g:=g',fn:=fn,pos:=pos,act:=.access ⟨.cell a,false,true⟩ }:MemOp),{ g:=g',fn:=fn,pos:=pos,act:=.access ⟨.cell a,true,true⟩ }] (λop hop=>by simp at hop;rcases hop with rfl|rfl<;>simp) m hm;rw[hg2,hd1]at this;omega
  .have:op= { g:=i,fn:=fn,pos:=pos,act:=.access ⟨.cell a,false,true⟩ }∨op= { g:=i,fn:=fn,pos:=pos,act:=.access ⟨.cell a,true,true⟩ }:=by simpa using hop
   rcases this with rfl|rfl<;>cases e
 |said=>
  have h0:=hsaid rfl;subst h0;obtain⟨a,ha,hor⟩:∃a:Addr,S.syn a.block∧(es= #[⟨.mark (.read a),false,true⟩]∨es= #[⟨.mark (.write a),false,true⟩]):=he;have :=h.app (B':=γ.B) (aJ _) hl hg (λop hop x hx=>?_) (.inl rfl) (λop hop b e=>?_)
  .exact this
  .obtain⟨e,hem,rfl⟩:=mem_ofEvents hop
   have hx1:x.loc=.cell a∧x.kind=.said:=by
    rcases hor with rfl|rfl<;>simp at hem<;>subst hem
    .have:x=⟨.cell a,false,.said⟩:=(aT hx).symm;subst this;exact⟨rfl,rfl⟩
    .have:x=⟨.cell a,true,.said⟩:=(aT hx).symm;subst this;exact⟨rfl,rfl⟩
   exact⟨.inr (.inr (.inl ⟨by rw[hx1.1];exact(vP _ ha).2 _ trivial rfl,by rw[hx1.2];simp, λ_=>rfl⟩)), λ_=>by rw[hx1.1,hB];exact(vP _ ha).1⟩
  .obtain⟨e',hem,rfl⟩:=mem_ofEvents hop;rcases hor with rfl|rfl<;>simp at hem<;>subst hem<;>cases e
 |_=>cases hk
def jy{s:Sh}{k:Kind}{es:Array Event}(he:PN S s k es)(d:Nat):deafBehind d es=Kind.iD d k:=by
 have one:∀m:Mark,m≠ .disable->m≠ .enable->es= #[⟨.mark m,false,true⟩]->deafBehind d es=d:=by intro m h1 h2 e;subst e;exact deafBehind_still (λe he=>by simp at he;subst he;exact⟨by simpa using h1,by simpa using h2⟩) d
 cases k with
 |atomic=>exact deafBehind_still (λe hem=>by obtain⟨a,h1,_⟩:=(show∀e∈es,∃a,e.loc=.cell a∧e.sync=true∧S.syn a.block from he) e hem;rw[h1];exact⟨by simp,by simp⟩) d
 |clock=>exact deafBehind_still (λe hem=>by have h1:=(show∀e∈es,e.loc=.output from he) e hem;rw[h1];exact⟨by simp,by simp⟩) d
 |disable=>have he:es=_:=he;subst he;rfl
 |enable=>have he:es=_:=he;subst he;rfl
 |sem=>obtain⟨a,_,rfl⟩:=(show∃a:Addr,S.syn a.block∧es= #[⟨.mark .disable,false,true⟩,⟨.cell a,false,true⟩,⟨.cell a,true,true⟩,⟨.mark .enable,false,true⟩]from he);simp[deafBehind,Kind.iD]
 |said=>
  obtain⟨a,_,h1|h1⟩:=(show∃a:Addr,S.syn a.block∧(es= #[⟨.mark (.read a),false,true⟩]∨es= #[⟨.mark (.write a),false,true⟩])from he)
  .exact one _ (by simp) (by simp) h1
  .exact one _ (by simp) (by simp) h1
 |pz=>obtain⟨a,_,h1⟩:=(show∃a,S.fM s=some a∧es= #[⟨.mark (.acquire a),false,true⟩]from he);exact one _ (by simp) (by simp) h1
 |pE=>obtain⟨a,_,h1⟩:=(show∃a,S.fM s=some a∧es= #[⟨.mark (.releaseMerge a),false,true⟩]from he);exact one _ (by simp) (by simp) h1
 |done=>obtain⟨a,_,h1⟩:=(show∃a,S.kW s=some a∧es= #[⟨.mark (.releaseMerge a),false,true⟩]from he);exact one _ (by simp) (by simp) h1
 |join=>obtain⟨a,_,h1⟩:=(show∃a,S.kW s=some a∧es= #[⟨.mark (.acquire a),false,true⟩]from he);exact one _ (by simp) (by simp) h1
def Co{w w2:World}{t:Trace}{s s':Sh}{γ:Gh}{j:Nat}{gj g g':Goroutine}{yh:TS T}(h:One P S w t s γ j gj yh)
 (hb:∀y,yh=.gK y->S.blk y.Tt s->S.blk y.Tt s'∨(mayWake P g=true∧g'.status≠ .blocked∧g'.status≠ .waiting)):One P S w t s' γ j (woken P g g' w2 gj) yh:=by
 cases yh with
 |lv k d=>obtain⟨h1,h2⟩:=h;exact⟨by rw[woken_quitsD h1];exact h1,h2⟩
 |gK x=>
  obtain⟨h1,h2,h3⟩:=h;have hrun:x.g.status=.running:=h2.running λ_ _ _=>jk
  refine⟨?_,h2,h3⟩;rcases h1 with rfl|⟨hl,hbl,rfl⟩
  .left;unfold woken;split
   .exact again_running _ (.inl hrun)
   .rfl
  .have hoff:x.g.offers=none:=by
    rw[hl]at h2;exact ED (h2 x.W (dM.refl _)) hbl
   unfold woken;split
   .exact .inl (again_blocked hrun hoff _)
   .rename_i hw;rcases hb x rfl hbl with hb|⟨h4,h5,h6⟩
    .exact .inr ⟨hl,hb,rfl⟩
    .exfalso;apply hw;simp[h4,h5,h6]
def rG{X:jE T}(hst:∀i Tt own g W,X i Tt own g W->g.status=.running){i:Nat}{Tt:T}{own:Nat->Prop}{g:Goroutine}{W:World}(h:On P S X i Tt own g W):g.status≠ .blocked∧g.status≠ .waiting:=by
 unfold On at h;split at h
 .obtain⟨q,hq⟩:=h;rcases hq.status with h|h<;>rw[h]<;>exact⟨by simp,by simp⟩
 .obtain⟨tr,htr⟩:=h.rank;have :=htr.running (hst i Tt);rw[this];exact⟨by simp,by simp⟩
def Ip{w w':World}{t u:Trace}{s0:Sh}{γ:Gh}{i j:Nat}{gj:Goroutine}{yh:TS T}(hj:j≠i)(hu:∀op∈u,op.g=i)(vP:∀b,S.syn b->b<w.heap.size∧∀l,fF l->lb l=b->γ.who l=.sy)(hst:dS S w w')
 (h:One P S w t s0 γ j gj yh):One P S w' (t++u) s0 γ j gj yh:=by
 cases yh with
 |lv k d=>
  obtain⟨h1,h2,h3,h4⟩:=h;exact⟨h1,by rw[Deaf_other t (Ne.symm hj) u hu];exact h2,h3,h4⟩
 |gK x=>
  obtain⟨h1,h2,h3,h4,h5,h6,h7⟩:=h;exact⟨h1,h2,h3.trans (Oi vP h7 hst),by rw[Deaf_other t (Ne.symm hj) u hu];exact h4,h5,h6,h7.size hst.size⟩
def MI.Ol{gs:Array Goroutine}{w:World}{t:Trace}{θ:Nat->TS T}{s:Sh}{γ:Gh}{G D:Nat->Prop}{Dc:Nat->Nat->Prop}(ok:pF S AI free rk lt)(h:MI P S AI free O gs w t θ s γ G D Dc)
 {i:Nat} {x:QC T} (hi:gs[i]?=some x.g) (hx:θ i=.gK x) {T':T} {s':Sh} {g':Goroutine} {w':World} {es:Array Event}
 (hf:S.fork x.Tt=false) (hr:S.ret x.Tt=false) (hb:¬S.blk x.Tt s) (hmv:S.mv i x.Tt s T' s') (hwk:S.wakes x.Tt=true->mayWake P x.g=true) (oH:S.Bb s' w') (hst:dS S w w') (he:PN S s (S.kind x.Tt) es) (hk:(S.kind x.Tt).plain=true)
 (hon:On P S (At P S) i T' x.own g' w'):
 ∃pG,MI P S AI free O ((gs.map (woken P x.g g' w')).setIfInBounds i g') w' (t++MemOp.ofEvents i x.g.frame.fn x.g.frame.place es) (upd θ i pG) s' γ G D Dc∧stops (upd θ i pG)=upd (stops θ) i (if S.quit T' then none else some T'):=by
 have h1:=h.one i x.g hi;rw[hx]at h1;obtain⟨_,Mg,Cm,kT,lG,zH,dV⟩:=h1;have hlt:=(aI.1 hi).1;have hφ:stops θ i=some x.Tt:=by unfold stops;rw[hx];rfl
 obtain⟨hsame,hZ,hpast⟩:=ok.plain h.ai hlt hφ hmv hk;have hdf:=ok.iD h.ai hlt hφ hmv;obtain⟨hai,_⟩:=ok.move h.ai hlt hφ hf hr hb hmv;obtain⟨am8,am9⟩:=ok.FJ h.ai hlt hφ;have hu:∀op∈MemOp.ofEvents i x.g.frame.fn x.g.frame.place es,op.g=i:= λop hop=>by obtain⟨e,_,rfl⟩:=mem_ofEvents hop;rfl
 have ac5:=rG (λ_ _ _ _ _=>jk) hon
 obtain⟨pG,yl⟩:∃pG:TS T,One P S w' (t++MemOp.ofEvents i x.g.frame.fn x.g.frame.place es) s' γ i g' pG∧pG.stop?=(if S.quit T' then none else some T')∧(i=0->∃y,pG=.gK y):=by
  have hd:Deaf (t++MemOp.ofEvents i x.g.frame.fn x.g.frame.place es) i=S.deaf T':=by rw[Deaf_own,jy he,kT,hdf]
  unfold On at hon
  by_cases hq:S.quit T'=true
  .rw[aj hq]at hon;obtain⟨q,hq'⟩:=hon;obtain⟨hp,h0⟩:=ok.quits h.ai hlt hφ hmv hq;refine⟨.lv q (S.deaf T'),⟨hq',hd,h0, λha=>?_⟩,by rw[aj hq];rfl, λe=>absurd e h0⟩;have :=(zH h0).1 ha;rw[<-hpast,hp]at this;cases this
  .rw[aa hq]at hon;obtain⟨tr,htr⟩:=hon.rank;refine⟨.gK ⟨T',x.own,g',w',tr⟩,⟨.inl rfl,htr,dM.refl _,hd,lG, λh0=>by rw[hpast];exact zH h0,?_⟩,by rw[aa hq];rfl, λ_=>⟨_,rfl⟩⟩;show gz γ w'.heap.size i (S.Z i T') x.own;rw[hZ];exact dV.size hst.size
 have Cq:∀b,γ.who (.obj b)≠ .sy->w'.heap[b]?=w.heap[b]?:= λb hb=>hst.rest b λhs=>hb ((h.syn b (.inl hs)).2 (.obj b) trivial rfl)
 refine⟨pG,⟨λj gj hj=>?_,?_,by simpa using h.pos,?_,oH,?_,h.B.trans hst.size.symm,by simpa using uC h.nums hlt _ _ _, λb hb=>?_,h.uh,h.memo, λk hk=>by simpa using h.yg k hk, λhj=>h.jn (hsame.kW ▸ hj),h.fM.trans hsame.fM.symm,h.kW.trans hsame.kW.symm, λhfr=>?_,?_⟩,?_⟩
 .rcases uB hj with⟨rfl,rfl,_⟩|⟨hne,g0,hg0,rfl⟩
  .rw[upd_same];exact yl.1
  .rw[upd_ne hne];refine Ip hne hu (λb hb=>h.syn b (.inl hb)) hst (Co (h.one j g0 hg0) λy hy hbl=>?_);cases hw:S.wakes x.Tt with
   |true=>exact .inr ⟨hwk hw,ac5⟩
   |false=>
    have QE:stops θ j=some y.Tt:=by unfold stops;rw[hy];rfl
    exact .inl (ok.stay h.ai hlt hφ hb hw (.inl hmv) j y.Tt (aI.1 hg0).1 hne QE hbl)
 .by_cases h0:(0:Nat)=i
  .obtain⟨y,hy⟩:=yl.2.2 h0.symm;exact⟨y,by rw[h0,upd_same];exact hy⟩
  .obtain⟨y,hy⟩:=h.main;exact⟨y,by rw[upd_ne h0];exact hy⟩
 .have e:stops (upd θ i pG)=upd (stops θ) i (if S.quit T' then none else some T'):=by
   funext j;unfold stops
   by_cases hj:j=i
   .subst hj;rw[upd_same,upd_same];exact yl.2.1
   .rw[upd_ne hj,upd_ne hj]
  rw[e];simpa using hai
 .refine h.ti.Oj h.B (λb hb=>h.syn b (.inl hb)) h.uh lG hk he ?_ am9 _ _
  by_cases h0:i=0
  .exact .inl (.inl h0)
  .cases hp:S.past x.Tt with
   |false=>exact .inl (.inr ((zH h0).2 hp))
   |true=>
    obtain⟨_,_,h2,h3⟩:=am8 hp;exact .inr ⟨h2, λe=>by rw[kT];exact h3 e⟩
 .have :=h.syn b hb;exact⟨by rw[hst.size];exact this.1,this.2⟩
 .obtain⟨h2,h3⟩:=h.lk (hsame.free.1 hfr);refine⟨ok.uA s' G w w' (hsame.J G w h2) λb hb=>Cq b ?_, λb hb=>⟨by rw[hst.size];exact(h3 b hb).1,(h3 b hb).2⟩⟩;rw[(h3 b hb).2 (.obj b) trivial rfl];simp
 .obtain⟨h2,h3,h4⟩:=h.dn;refine⟨ok.yf s' D Dc w w' (hsame.Dp D Dc w h2) (λb hb=>Cq b ?_) (λb k hb=>?_), λb hb=>⟨by rw[hst.size];exact(h3 b hb).1,(h3 b hb).2⟩, λb k hb=>⟨by rw[hst.size];exact(h4 b k hb).1,(h4 b k hb).2⟩⟩
  .rw[(h3 b hb).2 (.obj b) trivial rfl];simp
  .obtain⟨g1,g2,g3⟩:=h4 b k hb
   have:¬S.syn b:= λhs=>by have :=((h.syn b (.inl hs)).2 (.cell ⟨b,k,none⟩) trivial rfl).symm.trans (g3 ⟨b,k,none⟩ rfl rfl);cases this
   unfold World.cell?;simp only[hst.rest b this]
 .funext j;unfold stops
  by_cases hj:j=i
  .subst hj;rw[upd_same,upd_same];exact yl.2.1
  .rw[upd_ne hj,upd_ne hj]
end
end
section
variable {O:Nat->Prop}
section
variable {T Sh ρ:Type} {P:Program} {S:Sys T Sh} {AI:Nat->(Nat->Option T)->Sh->Prop} {free:Sh->Prop} {rk:Nat->(Nat->Option T)->Sh->ρ} {lt:ρ->ρ->Prop}
def Cr{w:World}{t:Trace}{s:Sh}{γ γ':Gh}{j:Nat}{gj:Goroutine}{yh:TS T}(h:One P S w t s γ j gj yh)
 (hr:∀y,yh=.gK y->gz γ w.heap.size j (S.Z j y.Tt) y.own->gz γ' w.heap.size j (S.Z j y.Tt) y.own) (hl:γ.live j->γ'.live j) (ha:γ'.act j↔γ.act j):One P S w t s γ' j gj yh:=by
 cases yh with
 |lv k d=>obtain⟨h1,h2,h3,h4⟩:=h;exact⟨h1,h2,h3, λx=>h4 (ha.1 x)⟩
 |gK x=>
  obtain⟨h1,h2,h3,h4,h5,h6,h7⟩:=h;exact⟨h1,h2,h3,h4,hl h5, λh0=>ha.trans (h6 h0),hr x rfl h7⟩
def zI{θ:Nat->TS T}{i:Nat}{pG:TS T}{o:Option T}(h:pG.stop?=o):stops (upd θ i pG)=upd (stops θ) i o:=by
 funext j;unfold stops
 by_cases hj:j=i
 .subst hj;rw[upd_same,upd_same];exact h
 .rw[upd_ne hj,upd_ne hj]
def MI.hand{gs:Array Goroutine}{w:World}{t:Trace}{θ:Nat->TS T}{s:Sh}{γ:Gh}{G D:Nat->Prop}{Dc:Nat->Nat->Prop}(ok:pF S AI free rk lt)(h:MI P S AI free O gs w t θ s γ G D Dc)
 {i:Nat} {x:QC T} (hi:gs[i]?=some x.g) (hx:θ i=.gK x) {T':T} {s':Sh} {g':Goroutine} {w':World} {es:Array Event} {γ':Gh} {pG:TS T} {G' D':Nat->Prop} {DZ:Nat->Nat->Prop}
 (hf:S.fork x.Tt=false) (hr:S.ret x.Tt=false) (hb:¬S.blk x.Tt s) (hmv:S.mv i x.Tt s T' s') (hwk:S.wakes x.Tt=true->mayWake P x.g=true) (oH:S.Bb s' w') (hst:dS S w w')
 (hnb:g'.status≠ .blocked∧g'.status≠ .waiting)
 (hti:TI γ' (t++MemOp.ofEvents i x.g.frame.fn x.g.frame.place es)) (hB:γ'.B=γ.B)
 (yl:One P S w' (t++MemOp.ofEvents i x.g.frame.fn x.g.frame.place es) s' γ' i g' pG) (hstop:pG.stop?=if S.quit T' then none else some T') (hmain:i=0->∃y,pG=.gK y)
 (XK:∀j y,j≠i->θ j=.gK y->j<gs.size->gz γ w.heap.size j (S.Z j y.Tt) y.own->gz γ' w.heap.size j (S.Z j y.Tt) y.own)
 (hlive:∀j,j≠i->γ.live j->γ'.live j) (hact:∀j,j≠i->(γ'.act j↔γ.act j))
 (hsy:∀l,γ.who l=.sy->γ'.who l=.sy) (XL:∀l,¬fF l->γ'.who l=.fr) (ac6:∀l,fF l->γ'.who l≠ .fr∧(γ'.who l=.sy->S.syn (lb l)∨O (lb l)))
 (hjn:S.kW s'=none->∀l,fF l->¬(S.syn (lb l)∨O (lb l))->γ'.who l=.gK 0) (hla:γ'.lock=S.fM s') (kj:γ'.wg=S.kW s')
 (hlk:free s'->S.J s' G' w'∧∀b,G' b->b<w'.heap.size∧∀l,fF l->lb l=b->γ'.who l=.lk)
 (hdn:S.Dp s' D' DZ w'∧(∀b,D' b->b<w'.heap.size∧∀l,fF l->lb l=b->γ'.who l=.dn)∧∀b k,DZ b k->b<w'.heap.size∧γ'.who (.obj b)=.pt∧∀a:Addr,a.block=b->a.off=k->γ'.who (.cell a)=.dn):
 MI P S AI free O ((gs.map (woken P x.g g' w')).setIfInBounds i g') w' (t++MemOp.ofEvents i x.g.frame.fn x.g.frame.place es) (upd θ i pG) s' γ' G' D' DZ∧stops (upd θ i pG)=upd (stops θ) i (if S.quit T' then none else some T'):=by
 have hlt:=(aI.1 hi).1;have hφ:stops θ i=some x.Tt:=by unfold stops;rw[hx];rfl
 obtain⟨hai,_⟩:=ok.move h.ai hlt hφ hf hr hb hmv;have hu:∀op∈MemOp.ofEvents i x.g.frame.fn x.g.frame.place es,op.g=i:= λop hop=>by obtain⟨e,_,rfl⟩:=mem_ofEvents hop;rfl
 have hst':=zI (θ:=θ) (i:=i) hstop;refine⟨⟨λj gj hj=>?_,?_,by simpa using h.pos,by rw[hst'];simpa using hai,oH,hti,hB.trans (h.B.trans hst.size.symm),by simpa using uC h.nums hlt _ _ _, λb hb=>?_,XL,ac6, λk hk=>?_,hjn,hla,kj,hlk,hdn⟩,hst'⟩
 .rcases uB hj with⟨rfl,rfl,_⟩|⟨hne,g0,hg0,rfl⟩
  .rw[upd_same];exact yl
  .rw[upd_ne hne];have hjlt:=(aI.1 hg0).1
   have h1:One P S w t s' γ j (woken P x.g g' w' g0) (θ j):=Co (h.one j g0 hg0) λy hy hbl=>by
    cases hw:S.wakes x.Tt with
    |true=>exact .inr ⟨hwk hw,hnb⟩
    |false=>
     have QE:stops θ j=some y.Tt:=by unfold stops;rw[hy];rfl
     exact .inl (ok.stay h.ai hlt hφ hb hw (.inl hmv) j y.Tt hjlt hne QE hbl)
   have h2:=Ip hne hu (λb hb=>h.syn b (.inl hb)) hst h1;exact Cr h2 (λy hy hR=>(XK j y hne hy hjlt (hR.size hst.size.symm)).size hst.size) (hlive j hne) (hact j hne)
 .by_cases h0:(0:Nat)=i
  .obtain⟨y,hy⟩:=hmain h0.symm;exact⟨y,by rw[h0,upd_same];exact hy⟩
  .obtain⟨y,hy⟩:=h.main;exact⟨y,by rw[upd_ne h0];exact hy⟩
 .have :=h.syn b hb;exact⟨by rw[hst.size];exact this.1, λl hl e=>hsy l (this.2 l hl e)⟩
 .by_cases hki:k=i
  .subst hki;simpa using hlt
  .simpa using h.yg k ((hact k hki).1 hk)
def hd1{i:Nat}{fn:FuncId}{pos:String}{m:Mark}:MemOp.ofEvents i fn pos #[⟨.mark m,false,true⟩]= #[{ g:=i,fn:=fn,pos:=pos,act:=.mark m }]:=by rw[ofEvents_eq];simp[MemAct.ofEvent]
def pI{w':World}{t':Trace}{s':Sh}{γ':Gh}{i:Nat}{g':Goroutine}{T':T}{dD:Nat->Prop}(hq:S.quit T'=false)(hon:On P S (At P S) i T' dD g' w')(hd:Deaf t' i=S.deaf T')(hl:γ'.live i)(ha:i≠0->(γ'.act i↔S.past T'=false))
 (hR:gz γ' w'.heap.size i (S.Z i T') dD):∃pG:TS T,One P S w' t' s' γ' i g' pG∧pG.stop?=(if S.quit T' then none else some T')∧∃y,pG=.gK y:=by
 unfold On at hon;have hnq:¬S.quit T'=true:=by rw[hq];simp
 rw[aa hnq]at hon;obtain⟨tr,htr⟩:=hon.rank;exact⟨.gK ⟨T',dD,g',w',tr⟩,⟨.inl rfl,htr,dM.refl _,hd,hl,ha,hR⟩,by rw[aa hnq];rfl,_,rfl⟩
def gz.turn{γ γ':Gh}{n j:Nat}{Z:fO}{own:Nat->Prop}(k:gz γ n j Z own)(h:∀l,γ'.who l=γ.who l∨(γ.who l≠ .gK j∧γ.who l≠ .ro∧γ.who l≠ .sy∧γ.who l≠ .pt)):gz γ' n j Z own:=by
 refine⟨λb hb=>⟨(k.own b hb).1, λl h1 h2=>?_⟩, λb c hb=>⟨(k.cl b c hb).1,?_, λa e1 e2=>?_⟩, λb hb=>⟨(k.ro b hb).1, λl h1 h2=>?_⟩, λb hb=>⟨(k.sy b hb).1,?_⟩⟩
 .have e:=(k.own b hb).2 l h1 h2;rcases h l with e'|⟨e',_⟩
  .rw[e'];exact e
  .exact absurd e e'
 .have e:=(k.cl b c hb).2.1;rcases h (.obj b)with e'|⟨_,_,_,e'⟩
  .rw[e'];exact e
  .exact absurd e e'
 .have e:=(k.cl b c hb).2.2 a e1 e2;rcases h (.cell a)with e'|⟨e',_⟩
  .rw[e'];exact e
  .exact absurd e e'
 .have e:=(k.ro b hb).2 l h1 h2;rcases h l with e'|⟨_,e',_⟩
  .rw[e'];exact e
  .exact absurd e e'
 .rcases h (.obj b)with e'|⟨_,_,e1,e2⟩
  .rw[e'];exact(k.sy b hb).2
  .rcases(k.sy b hb).2 with e|e
   .exact absurd e e1
   .exact absurd e e2
def MI.Cq{gs:Array Goroutine}{w w':World}{t:Trace}{θ:Nat->TS T}{s:Sh}{γ:Gh}{G D:Nat->Prop}{Dc:Nat->Nat->Prop}(h:MI P S AI free O gs w t θ s γ G D Dc)(hst:dS S w w'){b:Nat}(hb:γ.who (.obj b)≠ .sy):w'.heap[b]?=w.heap[b]?:=
 hst.rest b λhs=>hb ((h.syn b (.inl hs)).2 (.obj b) trivial rfl)
def MI.FK{gs:Array Goroutine}{w w':World}{t:Trace}{θ:Nat->TS T}{s s':Sh}{γ γ':Gh}{G D:Nat->Prop}{Dc:Nat->Nat->Prop}(ok:pF S AI free rk lt)(h:MI P S AI free O gs w t θ s γ G D Dc)(hst:dS S w w')
 (hw:∀l,γ'.who l=γ.who l∨(γ.who l≠ .dn∧γ.who l≠ .pt)) (hD:∀D Dc w,S.Dp s D Dc w->S.Dp s' D Dc w):
 S.Dp s' D Dc w'∧(∀b,D b->b<w'.heap.size∧∀l,fF l->lb l=b->γ'.who l=.dn)∧∀b k,Dc b k->b<w'.heap.size∧γ'.who (.obj b)=.pt∧∀a:Addr,a.block=b->a.off=k->γ'.who (.cell a)=.dn:=by
 obtain⟨d1,d2,d3⟩:=h.dn;refine⟨hD D Dc w' (ok.yf s D Dc w w' d1 (λb hb=>h.Cq hst (by rw[(d2 b hb).2 (.obj b) trivial rfl];simp)) (λb k hb=>?_)), λb hb=>⟨by rw[hst.size];exact(d2 b hb).1, λl h1 h2=>?_⟩, λb k hb=>⟨by rw[hst.size];exact(d3 b k hb).1,?_, λa e1 e2=>?_⟩⟩
 .have :=h.Cq hst (b:=b) (by rw[(d3 b k hb).2.1];simp);unfold World.cell?;simp only[this]
 .have e:=(d2 b hb).2 l h1 h2;rcases hw l with e'|⟨e',_⟩
  .rw[e'];exact e
  .exact absurd e e'
 .have e:=(d3 b k hb).2.1;rcases hw (.obj b)with e'|⟨_,e'⟩
  .rw[e'];exact e
  .exact absurd e e'
 .have e:=(d3 b k hb).2.2 a e1 e2;rcases hw (.cell a)with e'|⟨e',_⟩
  .rw[e'];exact e
  .exact absurd e e'
def MI.UD{gs:Array Goroutine}{w:World}{t:Trace}{θ:Nat->TS T}{s:Sh}{γ:Gh}{G D:Nat->Prop}{Dc:Nat->Nat->Prop}(ok:pF S AI free rk lt)(h:MI P S AI free O gs w t θ s γ G D Dc)
 {i:Nat} {x:QC T} (hi:gs[i]?=some x.g) (hx:θ i=.gK x) {T':T} {s':Sh} {g':Goroutine} {w':World} {es:Array Event}
 (hf:S.fork x.Tt=false) (hr:S.ret x.Tt=false) (hb:¬S.blk x.Tt s) (hmv:S.mv i x.Tt s T' s') (hwk:S.wakes x.Tt=true->mayWake P x.g=true) (oH:S.Bb s' w') (hst:dS S w w') (he:PN S s (S.kind x.Tt) es) (hk:S.kind x.Tt=.pz)
 (hon:∀G,(∀b,G b->¬x.own b)->S.J s G w'->On P S (At P S) i T' (λb=>x.own b∨G b) g' w'):
 ∃pG γ' G',MI P S AI free O ((gs.map (woken P x.g g' w')).setIfInBounds i g') w' (t++MemOp.ofEvents i x.g.frame.fn x.g.frame.place es) (upd θ i pG) s' γ' G' D Dc∧stops (upd θ i pG)=upd (stops θ) i (if S.quit T' then none else some T'):=by
 classical
 have h1:=h.one i x.g hi;rw[hx]at h1;obtain⟨_,Mg,Cm,kT,lG,zH,dV⟩:=h1;have hlt:=(aI.1 hi).1;have hφ:stops θ i=some x.Tt:=by unfold stops;rw[hx];rfl
 obtain⟨o1,o2,o3,o4,o5,o6,o7,o8,o9,QG⟩:=ok.pz h.ai hlt hφ hmv hk;have hdf:=ok.iD h.ai hlt hφ hmv;rw[hk]at hdf he;obtain⟨a,ha,rfl⟩:∃a,S.fM s=some a∧es= #[⟨.mark (.acquire a),false,true⟩]:=he;obtain⟨hJ,hG⟩:=h.lk o1
 have hJ':=ok.uA s G w w' hJ λb hb=>hst.rest b λhs=>by have :=((h.syn b (.inl hs)).2 (.obj b) trivial rfl).symm.trans ((hG b hb).2 (.obj b) trivial rfl);cases this
 have ZR:∀b,G b->¬x.own b:= λb hb ho=>by have :=(dV.kX ho).symm.trans ((hG b hb).2 (.obj b) trivial rfl);cases this
 have hon:=hon G ZR hJ';obtain⟨dN,iJ⟩:∃dN:Loc->Who,dN= λl=>if fF l∧G (lb l)then .gK i else γ.who l:=⟨_,rfl⟩
 have qL:∀l,fF l->G (lb l)->dN l=.gK i:= λl h1 h2=>by rw[iJ];exact aj ⟨h1,h2⟩
 have kY:∀l,¬(fF l∧G (lb l))->dN l=γ.who l:= λl h1=>by rw[iJ];exact aa h1
 have ZT:∀l,fF l->G (lb l)->γ.who l=.lk:= λl h1 h2=>(hG _ h2).2 l h1 rfl
 have jP:∀l,γ.who l≠ .lk->dN l=γ.who l:= λl hl=>kY l λ⟨h1,h2⟩=>hl (ZT l h1 h2)
 have keepR:∀j Z own,gz γ w.heap.size j Z own->gz { γ with who:=dN } w.heap.size j Z own:= λj Z own k=>k.turn λl=>by
  by_cases hl:γ.who l=.lk
  .exact .inr (by rw[hl];simp)
  .exact .inl (jP l hl)
 have hti:=h.ti.acquire (z:={ g:=i,fn:=x.g.frame.fn,pos:=x.g.frame.place,act:=.mark (.acquire a) }) (a:=a) (by rw[h.fM,ha]) rfl (by rw[kT,o6]) lG (dN:=dN) (λl=>by
  by_cases hl:fF l∧G (lb l)
  .exact .inr ⟨ZT l hl.1 hl.2,qL l hl.1 hl.2⟩
  .exact .inl (kY l hl))
 have XM:gz { γ with who:=dN } w'.heap.size i (S.Z i T') (λb=>x.own b∨G b):=by
  have :=keepR i _ _ dV;rw[o8,hst.size];refine⟨λb hb=>?_,this.cl,this.ro,this.sy⟩;rcases hb with hb|hb
  .exact this.own b hb
  .exact⟨(hG b hb).1, λl h1 h2=>qL l h1 (by rw[h2];exact hb)⟩
 have hdd:Deaf (t++MemOp.ofEvents i x.g.frame.fn x.g.frame.place #[⟨.mark (.acquire a),false,true⟩]) i=S.deaf T':=by rw[Deaf_own,kT,hdf,jy (S:=S) (s:=s) (k:=.pz) ⟨a,ha,rfl⟩]
 obtain⟨pG,yl,hstop,Kk⟩:=pI (s':=s') QG hon hdd (γ':={ γ with who:=dN }) lG (λh0=>by rw[o9];exact zH h0) XM
 refine⟨pG,{ γ with who:=dN }, λ_=>False,MI.hand ok h hi hx hf hr hb hmv hwk oH hst (rG (λ_ _ _ _ _=>jk) hon) (by rw[hd1];exact hti) rfl yl hstop (λ_=>Kk)
  (λj y _ _ _ k=>keepR j _ _ k) (λ_ _ h=>h) (λ_ _=>Iff.rfl) (λl hl=>?_) (λl hl=>?_) (λl hl=>?_) (λhn=>?_) (by rw[o3];exact h.fM) (by rw[o4];exact h.kW) (λhf'=>absurd hf' o2) ?_⟩
 .show dN l=_;rw[jP l (by rw[hl];simp)];exact hl
 .show dN l=_;rw[kY l λhm=>hl hm.1];exact h.uh l hl
 .show dN l≠_∧(dN l=_->_)
  by_cases hg:G (lb l)
  .rw[qL l hl hg];exact⟨by simp,by simp⟩
  .rw[kY l λhm=>hg hm.2];exact h.memo l hl
 .rw[o4]at hn;exact absurd hn o5
 .refine h.FK ok hst (λl=>?_) o7
  by_cases hl:γ.who l=.lk
  .exact .inr (by rw[hl];simp)
  .exact .inl (jP l hl)
def MI.UE{gs:Array Goroutine}{w:World}{t:Trace}{θ:Nat->TS T}{s:Sh}{γ:Gh}{G D:Nat->Prop}{Dc:Nat->Nat->Prop}(ok:pF S AI free rk lt)(h:MI P S AI free O gs w t θ s γ G D Dc)
 {i:Nat} {x:QC T} (hi:gs[i]?=some x.g) (hx:θ i=.gK x) {T':T} {s':Sh} {g':Goroutine} {w':World} {es:Array Event}
 (hf:S.fork x.Tt=false) (hr:S.ret x.Tt=false) (hb:¬S.blk x.Tt s) (hmv:S.mv i x.Tt s T' s') (hwk:S.wakes x.Tt=true->mayWake P x.g=true) (oH:S.Bb s' w') (hst:dS S w w') (he:PN S s (S.kind x.Tt) es) (hk:S.kind x.Tt=.pE)
 (hon:∃G,(∀b,G b->x.own b)∧S.J s' G w'∧On P S (At P S) i T' (λb=>x.own b∧¬G b) g' w'):
 ∃pG γ' G',MI P S AI free O ((gs.map (woken P x.g g' w')).setIfInBounds i g') w' (t++MemOp.ofEvents i x.g.frame.fn x.g.frame.place es) (upd θ i pG) s' γ' G' D Dc∧stops (upd θ i pG)=upd (stops θ) i (if S.quit T' then none else some T'):=by
 classical
 have h1:=h.one i x.g hi;rw[hx]at h1;obtain⟨_,Mg,Cm,kT,lG,zH,dV⟩:=h1;have hlt:=(aI.1 hi).1;have hφ:stops θ i=some x.Tt:=by unfold stops;rw[hx];rfl
 obtain⟨o1,o3,o4,o5,o6,o7,o8,o9,QG⟩:=ok.pE h.ai hlt hφ hmv hk;have hdf:=ok.iD h.ai hlt hφ hmv;rw[hk]at hdf he;obtain⟨a,ha,rfl⟩:∃a,S.fM s=some a∧es= #[⟨.mark (.releaseMerge a),false,true⟩]:=he;obtain⟨G',hG,hJ,hon⟩:=hon;obtain⟨dN,iJ⟩:∃dN:Loc->Who,dN= λl=>if fF l∧G' (lb l)then .lk else γ.who l:=⟨_,rfl⟩
 have qL:∀l,fF l->G' (lb l)->dN l=.lk:= λl h1 h2=>by rw[iJ];exact aj ⟨h1,h2⟩
 have kY:∀l,¬(fF l∧G' (lb l))->dN l=γ.who l:= λl h1=>by rw[iJ];exact aa h1
 have Ww:∀l,fF l->G' (lb l)->γ.who l=.gK i:= λl h1 h2=>(dV.own _ (hG _ h2)).2 l h1 rfl
 have jP:∀l,γ.who l≠ .gK i->dN l=γ.who l:= λl hl=>kY l λ⟨h1,h2⟩=>hl (Ww l h1 h2)
 have hti:=h.ti.release (y:={ g:=i,fn:=x.g.frame.fn,pos:=x.g.frame.place,act:=.mark (.releaseMerge a) }) (a:=a) (by rw[h.fM,ha]) rfl (by rw[kT,o6]) (dN:=dN) (λl=>by
  by_cases hl:fF l∧G' (lb l)
  .exact .inr ⟨Ww l hl.1 hl.2,qL l hl.1 hl.2⟩
  .exact .inl (kY l hl))
 have XM:gz { γ with who:=dN } w'.heap.size i (S.Z i T') (λb=>x.own b∧¬G' b):=by
  rw[o8,hst.size];refine⟨λb hb=>⟨(dV.own b hb.1).1, λl h1 h2=>?_⟩, λb c hb=>⟨(dV.cl b c hb).1,?_, λa e1 e2=>?_⟩, λb hb=>⟨(dV.ro b hb).1, λl h1 h2=>?_⟩, λb hb=>⟨(dV.sy b hb).1,?_⟩⟩
  .show dN l=_;rw[kY l λhm=>hb.2 (by rw[<-h2];exact hm.2)];exact(dV.own b hb.1).2 l h1 h2
  .show dN _=_;rw[jP _ (by rw[(dV.cl b c hb).2.1];simp)];exact(dV.cl b c hb).2.1
  .show dN _=_;have e:=(dV.cl b c hb).2.2 a e1 e2;rw[kY _ λhm=>?_]
   .exact e
   .have h3:G' b:=by rw[<-e1];exact hm.2
    have :=(dV.cl b c hb).2.1.symm.trans (dV.kX (hG b h3));cases this
  .show dN l=_;rw[jP l (by rw[(dV.ro b hb).2 l h1 h2];simp)];exact(dV.ro b hb).2 l h1 h2
  .show dN _=_∨dN _=_;rcases(dV.sy b hb).2 with e|e<;>rw[jP _ (by rw[e];simp)]
   .exact .inl e
   .exact .inr e
 have hdd:Deaf (t++MemOp.ofEvents i x.g.frame.fn x.g.frame.place #[⟨.mark (.releaseMerge a),false,true⟩]) i=S.deaf T':=by rw[Deaf_own,kT,hdf,jy (S:=S) (s:=s) (k:=.pE) ⟨a,ha,rfl⟩]
 obtain⟨pG,yl,hstop,Kk⟩:=pI (s':=s') QG hon hdd (γ':={ γ with who:=dN }) lG (λh0=>by rw[o9];exact zH h0) XM
 refine⟨pG,{ γ with who:=dN },G',MI.hand ok h hi hx hf hr hb hmv hwk oH hst (rG (λ_ _ _ _ _=>jk) hon) (by rw[hd1];exact hti) rfl yl hstop (λ_=>Kk)
  (λj y hne _ _ k=>k.turn λl=>?_) (λ_ _ h=>h) (λ_ _=>Iff.rfl) (λl hl=>?_) (λl hl=>?_) (λl hl=>?_) (λhn=>?_) (by rw[o3];exact h.fM) (by rw[o4];exact h.kW) (λ_=>⟨hJ, λb hb=>⟨?_, λl h1 h2=>qL l h1 (by rw[h2];exact hb)⟩⟩) ?_⟩
 .by_cases hl:γ.who l=.gK i
  .refine .inr ?_
   rw[hl];exact⟨λe=>hne (Who.gK.inj e).symm,by simp,by simp,by simp⟩
  .exact .inl (jP l hl)
 .show dN l=_;rw[jP l (by rw[hl];simp)];exact hl
 .show dN l=_;rw[kY l λhm=>hl hm.1];exact h.uh l hl
 .show dN l≠_∧(dN l=_->_)
  by_cases hg:G' (lb l)
  .rw[qL l hl hg];exact⟨by simp,by simp⟩
  .rw[kY l λhm=>hg hm.2];exact h.memo l hl
 .rw[o4]at hn;exact absurd hn o5
 .rw[hst.size];exact(dV.own b (hG b hb)).1
 .refine h.FK ok hst (λl=>?_) o7
  by_cases hl:γ.who l=.gK i
  .exact .inr (by rw[hl];simp)
  .exact .inl (jP l hl)
end
end
section
variable {O:Nat->Prop}
section
variable {T Sh ρ:Type} {P:Program} {S:Sys T Sh} {AI:Nat->(Nat->Option T)->Sh->Prop} {free:Sh->Prop} {rk:Nat->(Nat->Option T)->Sh->ρ} {lt:ρ->ρ->Prop}
def MI.QH{gs:Array Goroutine}{w:World}{t:Trace}{θ:Nat->TS T}{s:Sh}{γ:Gh}{G D:Nat->Prop}{Dc:Nat->Nat->Prop}(ok:pF S AI free rk lt)(h:MI P S AI free O gs w t θ s γ G D Dc)
 {i:Nat} {x:QC T} (hi:gs[i]?=some x.g) (hx:θ i=.gK x) {T':T} {s':Sh} {g':Goroutine} {w':World} {es:Array Event}
 (hf:S.fork x.Tt=false) (hr:S.ret x.Tt=false) (hb:¬S.blk x.Tt s) (hmv:S.mv i x.Tt s T' s') (hwk:S.wakes x.Tt=true->mayWake P x.g=true) (oH:S.Bb s' w') (hst:dS S w w') (he:PN S s (S.kind x.Tt) es) (hk:S.kind x.Tt=.done)
 (hdp:∀D Dc,S.Dp s D Dc w'->S.Dp s' (λb=>D b∨x.own b) (λb k=>Dc b k∨(S.Z i x.Tt).cl b k) w') (hon:On P S (At P S) i T' (λ_=>False) g' w'):
 ∃pG γ' D' DZ,MI P S AI free O ((gs.map (woken P x.g g' w')).setIfInBounds i g') w' (t++MemOp.ofEvents i x.g.frame.fn x.g.frame.place es) (upd θ i pG) s' γ' G D' DZ∧stops (upd θ i pG)=upd (stops θ) i (if S.quit T' then none else some T'):=by
 classical
 have h1:=h.one i x.g hi;rw[hx]at h1;obtain⟨_,Mg,Cm,kT,lG,zH,dV⟩:=h1;have hlt:=(aI.1 hi).1;have hφ:stops θ i=some x.Tt:=by unfold stops;rw[hx];rfl
 obtain⟨o1,o2,o3,o4,o5,o6,o7,o8,o9,QG,Wx,XN,Mb⟩:=ok.done h.ai hlt hφ hmv hk;have hdf:=ok.iD h.ai hlt hφ hmv;rw[hk]at hdf he;obtain⟨a,ha,rfl⟩:∃a,S.kW s=some a∧es= #[⟨.mark (.releaseMerge a),false,true⟩]:=he;obtain⟨dN,iJ⟩:∃dN:Loc->Who,dN= λl=>if γ.who l=.gK i then .dn else γ.who l:=⟨_,rfl⟩
 have qL:∀l,γ.who l=.gK i->dN l=.dn:= λl h1=>by rw[iJ];exact aj h1
 have kY:∀l,γ.who l≠ .gK i->dN l=γ.who l:= λl h1=>by rw[iJ];exact aa h1
 have hti:=h.ti.done (y:={ g:=i,fn:=x.g.frame.fn,pos:=x.g.frame.place,act:=.mark (.releaseMerge a) }) (a:=a) (by rw[h.kW,ha]) rfl (by rw[kT,o4]) (dN:=dN) (λl=>by
  by_cases hl:γ.who l=.gK i
  .rw[qL l hl];exact⟨by simp,.inr ⟨hl,rfl⟩⟩
  .rw[kY l hl];exact⟨hl,.inl rfl⟩)
 have XM:gz { γ with who:=dN,act:= λg=>γ.act g∧g≠i } w'.heap.size i (S.Z i T') (λ_=>False):=by
  rw[hst.size];refine⟨λb hb=>hb.elim, λb c hb=>absurd hb (XN b c), λb hb=>⟨(dV.ro b (QG b hb)).1, λl h1 h2=>?_⟩, λb hb=>⟨(dV.sy b (Wx b hb)).1,?_⟩⟩
  .show dN l=_;have e:=(dV.ro b (QG b hb)).2 l h1 h2;rw[kY l (by rw[e];simp)];exact e
  .show dN _=_∨dN _=_;rcases(dV.sy b (Wx b hb)).2 with e|e<;>rw[kY _ (by rw[e];simp)]
   .exact .inl e
   .exact .inr e
 have hdd:Deaf (t++MemOp.ofEvents i x.g.frame.fn x.g.frame.place #[⟨.mark (.releaseMerge a),false,true⟩]) i=S.deaf T':=by rw[Deaf_own,kT,hdf,jy (S:=S) (s:=s) (k:=.done) ⟨a,ha,rfl⟩]
 obtain⟨pG,yl,hstop,Kk⟩:=pI (s':=s') Mb hon hdd (γ':={ γ with who:=dN,act:= λg=>γ.act g∧g≠i }) lG (λ_=>⟨λx=>absurd rfl x.2, λx=>by rw[o3]at x;cases x⟩) XM
 refine⟨pG,{ γ with who:=dN,act:= λg=>γ.act g∧g≠i },_,_,MI.hand ok h hi hx hf hr hb hmv hwk oH hst (rG (λ_ _ _ _ _=>jk) hon) (by rw[hd1];exact hti) rfl yl hstop (λ_=>Kk)
  (λj y hne _ _ k=>k.turn λl=>?_) (λ_ _ h=>h) (λj hj=>⟨λx=>x.1, λx=>⟨x,hj⟩⟩) (λl hl=>?_) (λl hl=>?_) (λl hl=>?_) (λhn=>?_) (by rw[o5];exact h.fM) (by rw[o6];exact h.kW) (λhf'=>?_) ⟨hdp D Dc (h.FK ok hst (γ':=γ) (λ_=>.inl rfl) λ_ _ _ x=>x).1, λb hb=>?_, λb k hb=>?_⟩⟩
 .by_cases hl:γ.who l=.gK i
  .refine .inr ?_
   rw[hl];exact⟨λe=>hne (Who.gK.inj e).symm,by simp,by simp,by simp⟩
  .exact .inl (kY l hl)
 .show dN l=_;rw[kY l (by rw[hl];simp)];exact hl
 .show dN l=_;have e:=h.uh l hl;rw[kY l (by rw[e];simp)];exact e
 .show dN l≠_∧(dN l=_->_)
  by_cases hg:γ.who l=.gK i
  .rw[qL l hg];exact⟨by simp,by simp⟩
  .rw[kY l hg];exact h.memo l hl
 .rw[o6]at hn;exact absurd hn o7
 .obtain⟨h2,h3⟩:=h.lk (o8.1 hf');refine⟨o9 G w' (ok.uA s G w w' h2 λb hb=>h.Cq hst (by rw[(h3 b hb).2 (.obj b) trivial rfl];simp)), λb hb=>⟨by rw[hst.size];exact(h3 b hb).1, λl h1 h2=>?_⟩⟩;show dN l=_;have e:=(h3 b hb).2 l h1 h2;rw[kY l (by rw[e];simp)];exact e
 .obtain⟨_,d2,_⟩:=h.dn;rcases hb with hb|hb
  .refine⟨by rw[hst.size];exact(d2 b hb).1, λl h1 h2=>?_⟩;show dN l=_;have e:=(d2 b hb).2 l h1 h2;rw[kY l (by rw[e];simp)];exact e
  .exact⟨by rw[hst.size];exact(dV.own b hb).1, λl h1 h2=>qL l ((dV.own b hb).2 l h1 h2)⟩
 .obtain⟨_,_,d3⟩:=h.dn;rcases hb with hb|hb
  .refine⟨by rw[hst.size];exact(d3 b k hb).1,?_, λa e1 e2=>?_⟩
   .show dN _=_;have e:=(d3 b k hb).2.1;rw[kY _ (by rw[e];simp)];exact e
   .show dN _=_;have e:=(d3 b k hb).2.2 a e1 e2;rw[kY _ (by rw[e];simp)];exact e
  .obtain⟨c1,c2,c3⟩:=dV.cl b k hb;refine⟨by rw[hst.size];exact(dV.sy b c1).1,?_, λa e1 e2=>qL _ (c3 a e1 e2)⟩;show dN _=_;rw[kY _ (by rw[c2];simp)];exact c2
def MI.QI{gs:Array Goroutine}{w:World}{t:Trace}{θ:Nat->TS T}{s:Sh}{γ:Gh}{G D:Nat->Prop}{Dc:Nat->Nat->Prop}(ok:pF S AI free rk lt)(h:MI P S AI free O gs w t θ s γ G D Dc)
 {i:Nat} {x:QC T} (hi:gs[i]?=some x.g) (hx:θ i=.gK x) {T':T} {s':Sh} {g':Goroutine} {w':World} {es:Array Event}
 (hf:S.fork x.Tt=false) (hr:S.ret x.Tt=false) (hb:¬S.blk x.Tt s) (hmv:S.mv i x.Tt s T' s') (hwk:S.wakes x.Tt=true->mayWake P x.g=true) (oH:S.Bb s' w') (hst:dS S w w') (he:PN S s (S.kind x.Tt) es) (hk:S.kind x.Tt=.join)
 (hon:∀G D Dc dD,S.J s G w'->S.Dp s D Dc w'->(∀b,G b->¬x.own b)->(∀b,dD b->b<w'.heap.size∧¬S.syn b)->(∀b,x.own b->dD b)->(∀b,G b->dD b)->(∀b,D b->dD b)->On P S (At P S) i T' dD g' w'):
 ∃pG γ' G' D' DZ,MI P S AI free O ((gs.map (woken P x.g g' w')).setIfInBounds i g') w' (t++MemOp.ofEvents i x.g.frame.fn x.g.frame.place es) (upd θ i pG) s' γ' G' D' DZ∧stops (upd θ i pG)=upd (stops θ) i (if S.quit T' then none else some T'):=by
 classical
 have h1:=h.one i x.g hi;rw[hx]at h1;obtain⟨_,Mg,Cm,kT,lG,zH,dV⟩:=h1;have hlt:=(aI.1 hi).1;have hφ:stops θ i=some x.Tt:=by unfold stops;rw[hx];rfl
 obtain⟨o1,o2,o3,o4,o5,o6,o7,o8,o9,QG,Wx,XN⟩:=ok.join h.ai hlt hφ hmv hk;have hdf:=ok.iD h.ai hlt hφ hmv;rw[hk]at hdf he;subst o1;obtain⟨a,ha,rfl⟩:∃a,S.kW s=some a∧es= #[⟨.mark (.acquire a),false,true⟩]:=he
 have Wy:∀j y,j<gs.size->j≠0->θ j≠ .gK y:= λj y h1 h2 e=>by have :=o4 j h1 h2;unfold stops at this;rw[e]at this;cases this
 obtain⟨dN,iJ⟩:∃dN:Loc->Who,dN= λl=>if γ.who l=.sy then .sy else if γ.who l=.fr then .fr else .gK 0:=⟨_,rfl⟩
 have UF:∀l,γ.who l=.sy->dN l=.sy:= λl h1=>by rw[iJ];exact aj h1
 have Tb:∀l,γ.who l=.fr->dN l=.fr:= λl h1=>by rw[iJ];simp[h1]
 have qL:∀l,γ.who l≠ .sy->γ.who l≠ .fr->dN l=.gK 0:= λl h1 h2=>by rw[iJ];simp[h1,h2]
 have Mp:∀l,fF l->¬(S.syn (lb l)∨O (lb l))->dN l=.gK 0:= λl hl hn=>qL l (λe=>hn ((h.memo l hl).2 e)) (h.memo l hl).1
 have hno:∀g,g≠0->¬γ.act g:= λg hg ha=>by
  have hlt':=h.yg g ha;have :=h.one g gs[g] (by simp[hlt']);cases sM:θ g with
  |gK y=>exact Wy g y hlt' hg sM
  |lv k d=>rw[sM]at this;exact this.2.2.2 ha
 have hti:=(h.ti.join (z:={ g:=0,fn:=x.g.frame.fn,pos:=x.g.frame.place,act:=.mark (.acquire a) }) (a:=a) (by rw[h.kW,ha]) rfl rfl (by rw[kT,o3]) hno (dN:=dN) (λl=>by
  by_cases h1:γ.who l=.sy
  .exact .inl ⟨by rw[UF l h1,h1],.inl h1⟩
  .by_cases h2:γ.who l=.fr
   .exact .inl ⟨by rw[Tb l h2,h2],.inr h2⟩
   .exact .inr ⟨h1,qL l h1 h2⟩)).1
 obtain⟨hJ,hG⟩:=h.lk o2;have hon:=hon G D Dc (λb=>b<w'.heap.size∧¬(S.syn b∨O b)) (ok.uA s G w w' hJ λb hb=>h.Cq hst (by rw[(hG b hb).2 (.obj b) trivial rfl];simp)) (h.FK ok hst (γ':=γ) (λ_=>.inl rfl) λ_ _ _ x=>x).1 (λb hb ho=>by have :=((hG b hb).2 (.obj b) trivial rfl).symm.trans (dV.kX ho);cases this) (λb hb=>⟨hb.1, λhs=>hb.2 (.inl hs)⟩) (λb hb=>⟨by rw[hst.size];exact(dV.own b hb).1, λhs=>by have :=((h.syn b hs).2 (.obj b) trivial rfl).symm.trans (dV.kX hb);cases this⟩) (λb hb=>⟨by rw[hst.size];exact(hG b hb).1, λhs=>by have :=((h.syn b hs).2 (.obj b) trivial rfl).symm.trans ((hG b hb).2 (.obj b) trivial rfl);cases this⟩) (λb hb=>⟨by rw[hst.size];exact(h.dn.2.1 b hb).1, λhs=>by have :=((h.syn b hs).2 (.obj b) trivial rfl).symm.trans ((h.dn.2.1 b hb).2 (.obj b) trivial rfl);cases this⟩)
 have XM:gz { γ with who:=dN,wg:=none,lock:=none } w'.heap.size 0 (S.Z 0 T') (λb=>b<w'.heap.size∧¬(S.syn b∨O b)):=
  ⟨λb hb=>⟨hb.1, λl h1 h2=>Mp l h1 (by rw[h2];exact hb.2)⟩, λb c hb=>absurd hb (Wx b c), λb hb=>absurd hb (o9 b), λb hb=>absurd hb (QG b)⟩
 have hdd:Deaf (t++MemOp.ofEvents 0 x.g.frame.fn x.g.frame.place #[⟨.mark (.acquire a),false,true⟩]) 0=S.deaf T':=by rw[Deaf_own,kT,hdf,jy (S:=S) (s:=s) (k:=.join) ⟨a,ha,rfl⟩]
 obtain⟨pG,yl,hstop,Kk⟩:=pI (s':=s') XN hon hdd (γ':={ γ with who:=dN,wg:=none,lock:=none }) lG (λh0=>absurd rfl h0) XM
 refine⟨pG,{ γ with who:=dN,wg:=none,lock:=none }, λ_=>False, λ_=>False, λ_ _=>False,MI.hand ok h hi hx hf hr hb hmv hwk oH hst (rG (λ_ _ _ _ _=>jk) hon) (by rw[hd1];exact hti) rfl yl hstop (λ_=>Kk)
  (λj y hne hy hj k=>absurd hy (Wy j y hj hne)) (λ_ _ h=>h) (λ_ _=>Iff.rfl) (λl hl=>UF l hl) (λl hl=>Tb l (h.uh l hl)) (λl hl=>?_) (λ_ l hl hn=>Mp l hl hn) o5.symm o6.symm (λhf'=>absurd hf' o7) ⟨o8 w', λb hb=>hb.elim, λb k hb=>hb.elim⟩⟩
 show dN l≠_∧(dN l=_->_)
 by_cases hs:γ.who l=.sy
 .rw[UF l hs];exact⟨by simp, λ_=>(h.memo l hl).2 hs⟩
 .rw[qL l hs (h.memo l hl).1];exact⟨by simp,by simp⟩
def FL{t:Trace}{x y:MemOp}{k:Nat}(hx:x.act=.go k)(hy:y.act=.start)(g:Nat):Deaf (t++ #[x,y]) g=Deaf t g:=by have e:t++ #[x,y]=t++ [x,y].toArray:=rfl;rw[e,Deaf_append];simp only[List.foldl_cons,List.foldl_nil];unfold deafStep;rw[hx,hy]
def XO{w:World}{t:Trace}{s:Sh}{γ:Gh}{j:Nat}{gj:Goroutine}{yh:TS T}{x y:MemOp}{k:Nat}(hx:x.act=.go k)(hy:y.act=.start)(h:One P S w t s γ j gj yh):One P S w (t++ #[x,y]) s γ j gj yh:=by
 cases yh with
 |lv k d=>
  obtain⟨h1,h2,h3,h4⟩:=h;exact⟨h1,by rw[FL hx hy];exact h2,h3,h4⟩
 |gK z=>
  obtain⟨h1,h2,h3,h4,h5,h6,h7⟩:=h;exact⟨h1,h2,h3,by rw[FL hx hy];exact h4,h5,h6,h7⟩
def MI.Om{gs:Array Goroutine}{w:World}{t:Trace}{θ:Nat->TS T}{s:Sh}{γ:Gh}{G D:Nat->Prop}{Dc:Nat->Nat->Prop}(ok:pF S AI free rk lt)(h:MI P S AI free O gs w t θ s γ G D Dc)
 {x:QC T} (hi:gs[0]?=some x.g) (hx:θ 0=.gK x) {T' Tc:T} {s':Sh} {g' child:Goroutine} {dD mX:Nat->Prop}
 (hf:S.fork x.Tt=true) (hsp:S.sp x.Tt s T' Tc s') (oH:S.Bb s' w) (hown:∀b,x.own b↔dD b∨mX b) (uD:∀b,dD b->¬mX b)
 (hon:On P S (At P S) 0 T' dD g' w) (XP:∀k,k≠0->On P S (At P S) k Tc mX child w) (XQ XR:FuncId) (pos1 pos2:String):
 ∃Ud ZU γ',MI P S AI free O ((gs.setIfInBounds 0 g').push child) w (t++ #[{ g:=0,fn:=XQ,pos:=pos1,act:=.go gs.size },{ g:=gs.size,fn:=XR,pos:=pos2,act:=.start }]) (upd (upd θ 0 Ud) gs.size ZU) s' γ' G D Dc∧
  stops (upd (upd θ 0 Ud) gs.size ZU)=upd (upd (stops θ) 0 (some T')) gs.size (some Tc):=by
 classical
 have h1:=h.one 0 x.g hi;rw[hx]at h1;obtain⟨_,Mg,Cm,kT,lG,zH,dV⟩:=h1;have hlt:=(aI.1 hi).1;have hφ:stops θ 0=some x.Tt:=by unfold stops;rw[hx];rfl
 obtain⟨hsame,o2,o3,o4,o5,o6,o7,o8,o9,QG,Wx,XN,Mb,ZV⟩:=ok.Ki h.ai hφ hf hsp;obtain⟨hai,_⟩:=ok.spawn h.ai hφ hf hsp;have hn0:gs.size≠0:=by omega
 obtain⟨n,hn⟩:∃n,n=gs.size:=⟨_,rfl⟩;rw[<-hn]at Wx XN ZV hai hn0⊢;have XP:=XP n hn0;obtain⟨C,hC⟩:∃C:Loc->Prop,C= λl=>(fF l∧mX (lb l))∨∃a:Addr,l=.cell a∧(S.Z n Tc).cl a.block a.off:=⟨_,rfl⟩
 have lj:∀l,C l->γ.who l=.gK 0:=by
  intro l hl;rw[hC]at hl;rcases hl with⟨h1,h2⟩|⟨a,rfl,h2⟩
  .exact(dV.own _ ((hown _).2 (.inr h2))).2 l h1 rfl
  .exact(dV.cl _ _ (ZV _ _ h2).2.1).2.2 a rfl rfl
 obtain⟨dN,iJ⟩:∃dN:Loc->Who,dN= λl=>if C l then .gK n else γ.who l:=⟨_,rfl⟩
 have qL:∀l,C l->dN l=.gK n:= λl h1=>by rw[iJ];exact aj h1
 have kY:∀l,¬C l->dN l=γ.who l:= λl h1=>by rw[iJ];exact aa h1
 have jP:∀l,γ.who l≠ .gK 0->dN l=γ.who l:= λl hl=>kY l λhc=>hl (lj l hc)
 obtain⟨γ',hγ⟩:∃γ':Gh,γ'= { γ with who:=dN,live:= λg=>γ.live g∨g=n,act:= λg=>γ.act g∨g=n }:=⟨_,rfl⟩;have lS:γ'.who=dN:=by rw[hγ]
 have Oo:Deaf t n=0:=Deaf_absent λi op hop=>Nat.ne_of_lt (by rw[hn];exact h.nums op (aZ hop))
 have hti:TI γ' (t++ #[{ g:=0,fn:=XQ,pos:=pos1,act:=.go n },{ g:=n,fn:=XR,pos:=pos2,act:=.start }]):=by
  rw[hγ]
  exact h.ti.fork (k:=n) (x:={ g:=0,fn:=XQ,pos:=pos1,act:=.go n }) (y:={ g:=n,fn:=XR,pos:=pos2,act:=.start }) ⟨rfl,rfl⟩ ⟨rfl,rfl⟩ (by rw[kT,o3]) Oo lG (dN:=dN) λl=>by
   by_cases hl:C l
   .exact .inr ⟨lj l hl,qL l hl⟩
   .exact .inl (kY l hl)
 have hdd:∀g,Deaf (t++ #[{ g:=0,fn:=XQ,pos:=pos1,act:=.go n },{ g:=n,fn:=XR,pos:=pos2,act:=.start }]) g=Deaf t g:= λg=>FL rfl rfl g
 have other:∀{j Z own},j≠0->gz γ w.heap.size j Z own->gz γ' w.heap.size j Z own:= λhj k=>k.turn λl=>by
  rw[lS]
  by_cases hl:C l
  .refine .inr ?_
   rw[lj l hl];exact⟨λe=>hj (Who.gK.inj e).symm,by simp,by simp,by simp⟩
  .exact .inl (kY l hl)
 have ac8:∀b k,(S.Z n Tc).cl b k->∀b',x.own b'->b'≠b:= λb k hb b' hb' e=>by have :=(dV.cl b k (ZV b k hb).2.1).2.1.symm.trans (dV.kX (e ▸ hb'));cases this
 have hR0:gz γ' w.heap.size 0 (S.Z 0 T') dD:=by
  refine⟨λb hb=>⟨(dV.own b ((hown b).2 (.inl hb))).1, λl h1 h2=>?_⟩, λb c hb=>⟨(Mb b c hb).1,?_, λa e1 e2=>?_⟩, λb hb=>⟨(dV.ro b (o9 b hb)).1, λl h1 h2=>?_⟩, λb hb=>⟨(dV.sy b (QG b hb)).1,?_⟩⟩
  .rw[lS,kY l]
   .exact(dV.own b ((hown b).2 (.inl hb))).2 l h1 h2
   .intro hc;rw[hC]at hc;rcases hc with⟨_,h3⟩|⟨a,rfl,h3⟩
    .rw[h2]at h3;exact uD b hb h3
    .exact ac8 _ _ h3 b ((hown b).2 (.inl hb)) h2.symm
  .have e:=(dV.cl b c (Mb b c hb).2).2.1;rw[lS,jP _ (by rw[e];simp)];exact e
  .have e:=(dV.cl b c (Mb b c hb).2).2;rw[lS,kY]
   .exact e.2 a e1 e2
   .intro hc;rw[hC]at hc;rcases hc with⟨_,h3⟩|⟨a',ea,h3⟩
    .have h3:mX a.block:=h3;rw[e1]at h3;have :=e.1.symm.trans (dV.kX ((hown b).2 (.inr h3)));cases this
    .cases ea;rw[e1,e2]at h3;exact(ZV b c h3).2.2 hb
  .have e:=(dV.ro b (o9 b hb)).2 l h1 h2;rw[lS,jP l (by rw[e];simp)];exact e
  .rw[lS];rcases(dV.sy b (QG b hb)).2 with e|e<;>rw[jP _ (by rw[e];simp)]
   .exact .inl e
   .exact .inr e
 have hRc:gz γ' w.heap.size n (S.Z n Tc) mX:=by
  refine⟨λb hb=>⟨(dV.own b ((hown b).2 (.inr hb))).1, λl h1 h2=>?_⟩, λb c hb=>⟨(ZV b c hb).1,?_, λa e1 e2=>?_⟩, λb hb=>⟨(dV.ro b (Wx b hb)).1, λl h1 h2=>?_⟩, λb hb=>⟨(dV.sy b (XN b hb)).1,?_⟩⟩
  .rw[lS];exact qL l (by rw[hC];exact .inl ⟨h1,by rw[h2];exact hb⟩)
  .have e:=(dV.cl b c (ZV b c hb).2.1).2.1;rw[lS,jP _ (by rw[e];simp)];exact e
  .rw[lS];exact qL _ (by rw[hC];exact .inr ⟨a,rfl,by rw[e1,e2];exact hb⟩)
  .have e:=(dV.ro b (Wx b hb)).2 l h1 h2;rw[lS,jP l (by rw[e];simp)];exact e
  .rw[lS];rcases(dV.sy b (XN b hb)).2 with e|e<;>rw[jP _ (by rw[e];simp)]
   .exact .inl e
   .exact .inr e
 obtain⟨Ud,XT,QJ,QK⟩:=pI (s':=s') o7 hon (by rw[hdd,kT,o3,o4]) (γ':=γ') (by rw[hγ];exact .inl lG) (λh0=>absurd rfl h0) hR0;obtain⟨ZU,an0,Sp,as6⟩:=pI (s':=s') o8 XP (by rw[hdd,Oo,o5]) (γ':=γ') (by rw[hγ];exact .inr rfl) (λ_=>⟨λ_=>o6, λ_=>by rw[hγ];exact .inr rfl⟩) hRc;rw[aa (by rw[o7];simp)]at QJ;rw[aa (by rw[o8];simp)]at Sp;have Up:stops (upd (upd θ 0 Ud) n ZU)=upd (upd (stops θ) 0 (some T')) n (some Tc):=by rw[zI Sp,zI QJ]
 refine⟨Ud,ZU,γ',⟨λj gj hj=>?_,?_,by simp,by rw[Up];simpa[<-hn]using hai,oH,hti,by rw[hγ];exact h.B, λop hop=>?_, λb hb=>⟨(h.syn b hb).1, λl h1 h2=>?_⟩, λl hl=>?_, λl hl=>?_, λk hk=>?_, λhj=>absurd (hsame.kW ▸ hj) o2,by rw[hγ,hsame.fM];exact h.fM,by rw[hγ,hsame.kW];exact h.kW, λhf'=>?_,?_⟩,Up⟩
 .rw[Array.getElem?_push]at hj;split at hj
  .rename_i e;simp at e;have e:j=n:=by rw[e,hn]
   subst e;rw[upd_same];cases hj;exact an0
  .rename_i e;have e:j≠n:= λe'=>e (by simp[e',hn])
   rw[upd_ne e]
   by_cases hj0:j=0
   .subst hj0;rw[upd_same];rw[aD hlt]at hj;cases hj;exact XT
   .rw[upd_ne hj0];rw[au (Ne.symm hj0)]at hj;have hjlt:=(aI.1 hj).1;have h2:=XO (x:={ g:=0,fn:=XQ,pos:=pos1,act:=.go n }) (y:={ g:=n,fn:=XR,pos:=pos2,act:=.start }) rfl rfl (h.one j gj hj)
    have h3:One P S w (t++ #[{ g:=0,fn:=XQ,pos:=pos1,act:=.go n },{ g:=n,fn:=XR,pos:=pos2,act:=.start }]) s' γ j gj (θ j):=by
     cases sM:θ j with
     |lv k d=>rw[sM]at h2;exact h2
     |gK y=>
      rw[sM]at h2;obtain⟨b1,b2⟩:=h2;refine⟨b1.imp id λ⟨c1,c2,c3⟩=>⟨c1,?_,c3⟩,b2⟩;have QE:stops θ j=some y.Tt:=by unfold stops;rw[sM];rfl
      exact ok.stay h.ai hlt hφ ((ok.yc _ hf).2 s) (ok.yc _ hf).1 (.inr ⟨Tc,hsp⟩) j y.Tt hjlt hj0 QE c2
    refine Cr h3 (λy _ k=>other hj0 k) (λx=>by rw[hγ];exact .inl x) ?_
    rw[hγ];exact⟨λx=>x.resolve_right e, λx=>.inl x⟩
 .obtain⟨y,hy⟩:=QK;exact⟨y,by rw[upd_ne (Ne.symm hn0),upd_same];exact hy⟩
 .rcases Array.mem_append.1 hop with hop|hop
  .have :=h.nums op hop;simp;omega
  .have:op= { g:=0,fn:=XQ,pos:=pos1,act:=.go n }∨op= { g:=n,fn:=XR,pos:=pos2,act:=.start }:=by simpa using hop
   rcases this with rfl|rfl<;>simp;omega
 .have e:=(h.syn b hb).2 l h1 h2;rw[lS,jP l (by rw[e];simp)];exact e
 .have e:=h.uh l hl;rw[lS,jP l (by rw[e];simp)];exact e
 .rw[lS]
  by_cases hc:C l
  .rw[qL l hc];exact⟨by simp,by simp⟩
  .rw[kY l hc];exact h.memo l hl
 .rw[hγ]at hk;rcases hk with hk|rfl
  .have :=h.yg k hk;simp;omega
  .simp[hn]
 .obtain⟨h2,h3⟩:=h.lk (hsame.free.1 hf');refine⟨hsame.J G w h2, λb hb=>⟨(h3 b hb).1, λl h1 h2=>?_⟩⟩;have e:=(h3 b hb).2 l h1 h2;rw[lS,jP l (by rw[e];simp)];exact e
 .obtain⟨d1,d2,d3⟩:=h.dn;refine⟨hsame.Dp D Dc w d1, λb hb=>⟨(d2 b hb).1, λl h1 h2=>?_⟩, λb k hb=>⟨(d3 b k hb).1,?_, λa e1 e2=>?_⟩⟩
  .have e:=(d2 b hb).2 l h1 h2;rw[lS,jP l (by rw[e];simp)];exact e
  .have e:=(d3 b k hb).2.1;rw[lS,jP _ (by rw[e];simp)];exact e
  .have e:=(d3 b k hb).2.2 a e1 e2;rw[lS,jP _ (by rw[e];simp)];exact e
end
end
end cS
