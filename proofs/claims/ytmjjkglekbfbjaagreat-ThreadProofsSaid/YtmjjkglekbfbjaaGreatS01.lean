/- Part 1. -/
import Derived.Test.YtmjjkglekbfbjaaGreatH32
set_option maxRecDepth 100000
set_option maxHeartbeats 0
set_option linter.all false
section
namespace cS
open Go Go.Conc Go.ConcM Go.ConcN
section
variable [Sh] {P P':Program} {F:Fit}
def Z2:eP P' F=eP P F:=by funext x;cases x<;>rfl
def pH:sI P' F=sI P F:=by funext c;unfold sI;rw[Z2]
def bO(h:Alike P P'):∀n t,Wo P' n t=Wo P n t
 |0,_=>rfl
 |n+1,t=>by unfold Wo;simp only[h.underlying,h.stoodInHeld,bO h n]
section
variable (h:Alike P P')
include h
theorem lO(t:TypeId)(x y:Operand):Qg P' t x y=Qg P t x y:=by unfold Qg;simp only[h.underlying,h.eqGuardType,h.depth,bO h]
theorem RM(op:BinOp)(t:TypeId)(x y:Operand):Qh P' op t x y=Qh P op t x y:=by unfold Qh;simp only[h.underlying,lO h]
theorem AH(s d:TypeId):J2 P' s d=J2 P s d:=by unfold J2;simp only[h.underlying]
theorem AE(t:TypeId)(i:Nat):Fy P' t i=Fy P t i:=by unfold Fy;simp only[h.underlying,h.info]
theorem SM(t:TypeId):xS P' t=xS P t:=by unfold xS J5;simp only[h.underlying]
theorem CH:jg P' F=jg P F:=by funext o;unfold jg;simp only[Z2 (P:=P) (P':=P'),pH (P:=P) (P':=P'),RM h,AH h,AE h,SM h]
theorem PH:codeOk P' F=codeOk P F:=by
 funext c
 induction c with
 |region _ ops _=>unfold codeOk;rw[CH h]
 |seq a b ha hb=>unfold codeOk;rw[ha,hb]
 |cond x a b ha hb=>unfold codeOk;rw[Z2 (P:=P),ha,hb]
 |block _ c h=>unfold codeOk;exact h
 |loop c h=>unfold codeOk;exact h
 |scope c h=>unfold codeOk;exact h
 |rangeFunc x _ a b ha hb=>unfold codeOk;rw[Z2 (P:=P),ha,hb]
 |_=>rfl
end
end
section
variable [Sh] {P P' Q:Program} {S V:FuncId->Bool} {cd:Code->Bool} {D:Oc}
def Alike.code(h:Alike P P'):fe P' S V=fe P S V:=PH h
def jM.alike{F:Fit}{fr:Frame}(h:Alike P P')(hf:jM P F fr):jM P' F fr:=by
 refine⟨hf.fn,hf.tmps, λi hi=>?_,hf.defers,hf.kind,hf.round⟩;have :=hf.todo i hi;cases i<;>try exact this
 unfold zz at this⊢;rw[CH h];exact this
structure Pos(P:Program)(S V:FuncId->Bool)(cd:Code->Bool)(D:Oc):Prop where
 ground:Ground P S V cd Z0 D
 wr:WR (FA S V cd (Bd D.A D.w0.heap.size)) D.f0 D.w0 D.W0
 lk:∀(b:Nat)(o:Obj),D.A b=true->D.w0.heap[b]?=some o->¬iZ o->D.dR (D.f0 b)∧¬D.L (D.f0 b)
def Pos.prog(p:Pos P S V cd D)(h:Alike P P')(good:∀A:Nat->Bool,kL P' (FA S V cd A))(gD:iA P'=true):Pos P' S V cd D:=by obtain⟨g,w,l⟩:=p;have hg:=h.globals;have hi:=h.info;exact⟨⟨good,gD,by rw[hg];exact g.ja, λb hb=>g.xT b (by rw[<-hg];exact hb),g.XC,g.bV, λb hb=>g.ZN b (by rw[<-hg];exact hb), λb hb=>by rw[hi];exact g.bad b hb, λb hb t i e=>g.cc b hb t i (by rw[<-hi];exact e),g.oT,g.a0,g.af,g.own,g.ro,g.sy,g.cl,g.lL,g.nm,g.Uy⟩,w,l⟩
def Pos.next(p:Pos P S V cd D){v:Value}{w:World}{f:Nat->Nat}{own:Nat->Prop}{W:World}(h:FH S V cd Z0 D v w f own W):Pos P S V cd ⟨w,W,f,D.L,own,D.A⟩:=by
 have g:=p.ground;refine⟨⟨g.good,g.gD,Nat.lt_of_lt_of_le g.ja h.n0, λb hb=>(h.fid b (Nat.lt_of_le_of_lt hb g.ja)).trans (g.xT b hb),h.DY, λa b ha hb hla OS hab=>?_,g.ZN,g.bad,g.cc, λb hb=>Nat.lt_of_lt_of_le (g.oT b hb) h.n0,h.img, λb hb=>g.af b (Nat.le_trans h.n0 hb), λb hb=>⟨h.Wu b hb, λx=>x, λx=>x⟩, λb x=>x.elim, λb x=>x.elim, λb i x=>x.elim, λb hb=>?_,g.nm,g.Uy⟩,h.wr,h.lk⟩
 .have hsmall:∀b,b<D.w0.heap.size->Sh.hol b=false->f b=D.f0 b∧f b<D.W0.heap.size:= λb hb hh=>by
   rw[h.fid b hb];exact⟨rfl,g.XC b hb hh⟩
  have ha:a<w.heap.size:=ha;have hb:b<w.heap.size:=hb;have hab:f a=f b:=hab;rcases Nat.lt_or_ge a D.w0.heap.size with h1|h1
  .have k1:=hsmall a h1 (LM hla);rcases Nat.lt_or_ge b D.w0.heap.size with h2|h2
   .exact g.bV a b h1 h2 hla OS (by rw[<-k1.1, <-(hsmall b h2 OS).1,hab])
   .have :=h.Wt b h2 hb;omega
  .rcases Nat.lt_or_ge b D.w0.heap.size with h2|h2
   .have :=(hsmall b h2 OS).2;have :=h.Wt a h1 ha;omega
   .rcases Nat.lt_trichotomy a b with hlt|heq|hgt
    .have :=h.Ez a b h1 hlt hb;omega
    .exact heq
    .have :=h.Ez b a h2 hgt ha;omega
 .have :=(g.lL b hb).2.resolve_left λx=>x
  exact⟨h.Wu b (h.owns b this),.inr (h.owns b this)⟩
def Pos.move(p:Pos P S V cd D){dD:Nat->Prop}{W':World}(hz:D.W0.heap.size<=W'.heap.size)(hk:∀b,D.dR b->W'.heap[b]?=D.W0.heap[b]?)(hs:∀b,D.dR b->dD b)(hl:∀b,dD b->b<W'.heap.size):Pos P S V cd ⟨D.w0,W',D.f0,D.L,dD,D.A⟩:=by
 obtain⟨g,w,l⟩:=p;have a0:∀b,b<D.w0.heap.size->D.A b=true->D.dR (D.f0 b):= λb hb hA=>(g.a0 b hb hA).resolve_right λx=>x
 refine⟨⟨g.good,g.gD,g.ja,g.xT, λb hb hh=>Nat.lt_of_lt_of_le (g.XC b hb hh) hz,g.bV,g.ZN,g.bad,g.cc,g.oT, λb hb hA=>.inl (hs _ (a0 b hb hA)),g.af, λb hb=>⟨hl b hb, λx=>x, λx=>x⟩, λb x=>x.elim, λb x=>x.elim, λb i x=>x.elim, λb hb=>?_,g.nm,g.Uy⟩,
  ⟨λb hb hA=>Nat.lt_of_lt_of_le (w.lt b hb hA) hz, λb o hb ho=>?_⟩, λb o hA ho hn=>⟨hs _ (l b o hA ho hn).1,(l b o hA ho hn).2⟩⟩
 .have :=(g.lL b hb).2.resolve_left λx=>x
  exact⟨hl b (hs b this),.inr (hs b this)⟩
 .have hb':=gH.1 hb;have :=w.blk b o hb ho;show BR _ D.f0 b o W'.heap[D.f0 b]?
  rw[hk _ (a0 b hb'.2 hb'.1)];exact this
def Pos.push(p:Pos P S V cd D){x:Nat}{cur:Array Value}{e:TypeId}{fr:Nat×Nat}(hne:∀b,b<D.w0.heap.size->Sh.hol b=false->D.f0 b<x)(hx:D.dR x)(hL:¬D.L x)(hbx:D.W0.heap[x]?=some (.cells cur e fr))(hp:∀v∈cur,eF v=true):
 Pos P S V cd ⟨D.w0.alloc (.cells cur e fr),D.W0, λb=>if b<D.w0.heap.size then D.f0 b else x+(b-D.w0.heap.size),D.L,D.dR,D.A⟩:=by
 obtain⟨g,w,l⟩:=p;have hsz:(D.w0.alloc (.cells cur e fr)).heap.size=D.w0.heap.size+1:=by show(Array.push _ _).size=_;rw[Array.size_push]
 have hold:∀b,b<D.w0.heap.size->(D.w0.alloc (.cells cur e fr)).heap[b]?=D.w0.heap[b]?:= λb hb=>by
  show(Array.push _ _)[b]?=_
  rw[Array.getElem?_push_lt hb,Array.getElem?_eq_getElem hb]
 have hnew:(D.w0.alloc (.cells cur e fr)).heap[D.w0.heap.size]?=some (.cells cur e fr):=by show(Array.push _ _)[_]?=_;simp
 have hlk:∀b,D.w0.heap.size<=b->Sh.lk b=false:= λb hb=>by
  cases hx:Sh.lk b with
  |false=>rfl
  |true=>have :=g.oT b hx;omega
 have two:∀b,b<D.w0.heap.size+1->b<D.w0.heap.size∨b=D.w0.heap.size:= λb hb=>by omega
 obtain⟨f,hf⟩:∃f:Nat->Nat,f= λb=>if b<D.w0.heap.size then D.f0 b else x+(b-D.w0.heap.size):=⟨_,rfl⟩
 have f1:∀b,b<D.w0.heap.size->f b=D.f0 b:= λb hb=>by rw[hf];exact if_pos hb
 have f2:f D.w0.heap.size=x:=by rw[hf];simp
 rw[<-hf];have hAn:=g.af D.w0.heap.size (Nat.le_refl _)
 have pl:cur.map (rv f)=cur:=by
  have:cur.map (rv f)=cur.map id:=Array.map_congr_left λv hv=>(iP (F:=⟨λ_=>false, λ_=>false, λ_=>false, λ_=>false⟩) (hp v hv)).1
  rw[this,Array.map_id]
 have hnh:Sh.hol D.w0.heap.size=false:=LM (hlk _ (Nat.le_refl _));refine⟨⟨g.good,g.gD,?_, λb hb=>?_, λb hb hh=>?_, λa b ha hb hla OS hab=>?_,g.ZN,g.bad,g.cc, λb hb=>?_, λb hb hA=>?_, λb hb=>?_,g.own,g.ro,g.sy,g.cl,g.lL,g.nm,g.Uy⟩,⟨λb hb hA=>?_, λb o hb ho=>?_⟩, λb o hA ho hn=>?_⟩
 .show _<(D.w0.alloc (.cells cur e fr)).heap.size;have :=g.ja;omega
 .show f b=b;rw[f1 b (Nat.lt_of_le_of_lt hb g.ja)];exact g.xT b hb
 .show f b<_;have hb:b<(D.w0.alloc (.cells cur e fr)).heap.size:=hb;rw[hsz]at hb;rcases two b hb with h|rfl
  .rw[f1 b h];exact g.XC b h hh
  .rw[f2];exact(g.own x hx).1
 .have ha:a<(D.w0.alloc (.cells cur e fr)).heap.size:=ha;have hb:b<(D.w0.alloc (.cells cur e fr)).heap.size:=hb;have hab:f a=f b:=hab;rw[hsz]at ha hb;rcases two a ha with h1|rfl<;>rcases two b hb with h2|rfl
  .rw[f1 a h1,f1 b h2]at hab;exact g.bV a b h1 h2 hla OS hab
  .rw[f1 a h1,f2]at hab;have :=hne a h1 (LM hla);omega
  .rw[f1 b h2,f2]at hab;have :=hne b h2 OS;omega
  .rfl
 .show _<(D.w0.alloc (.cells cur e fr)).heap.size;have :=g.oT b hb;omega
 .have hb:b<(D.w0.alloc (.cells cur e fr)).heap.size:=hb;rw[hsz]at hb;show D.dR (f b)∨_;rcases two b hb with h|rfl
  .rw[f1 b h];exact g.a0 b h hA
  .rw[f2];exact .inl hx
 .have hb:(D.w0.alloc (.cells cur e fr)).heap.size<=b:=hb;exact g.af b (by omega)
 .have hb:b<(D.w0.alloc (.cells cur e fr)).heap.size:=hb;rw[hsz]at hb;show f b<_;rcases two b hb with h|rfl
  .rw[f1 b h];exact w.lt b h (gH.2 ⟨(gH.1 hA).1,h⟩)
  .rw[f2];exact(g.own x hx).1
 .have hlt:=(Array.getElem?_eq_some_iff.1 ho).1;have hlt:b<(D.w0.alloc (.cells cur e fr)).heap.size:=hlt;rw[hsz]at hlt;show BR _ f b o D.W0.heap[f b]?
  rcases two b hlt with h|rfl
  .rw[f1 b h];have ho':D.w0.heap[b]?=some o:=(hold b h).symm.trans ho
   refine BR.conv (F:=FA S V cd (Bd D.A D.w0.heap.size)) (F':=FA S V cd (Bd D.A (D.w0.alloc (.cells cur e fr)).heap.size)) (f:=D.f0) ⟨rfl,rfl⟩ rfl (λc hc=>gH.2 ⟨(gH.1 hc).1,?_⟩) (λc hc=>(f1 c (g.below (Nat.le_refl _) hc)).symm) (w.blk b o (gH.2 ⟨(gH.1 hb).1,h⟩) ho');show c<(D.w0.alloc (.cells cur e fr)).heap.size;have :=(gH.1 hc).2;omega
  .have ho:(D.w0.alloc (.cells cur e fr)).heap[D.w0.heap.size]?=some o:=ho
   rw[hnew]at ho;cases ho;refine .inr (.inl ⟨hlk _ (Nat.le_refl _),cur,e,fr,fr,rfl, λv hv=>(iP (f:=f) (hp v hv)).2,?_, λi hi h1 h2=>⟨h1,h2⟩⟩);rw[f2,pl];exact hbx
 .have hlt:=(Array.getElem?_eq_some_iff.1 ho).1;have hlt:b<(D.w0.alloc (.cells cur e fr)).heap.size:=hlt;rw[hsz]at hlt;show D.dR (f b)∧¬D.L (f b);rcases two b hlt with h|rfl
  .rw[f1 b h];exact l b o hA ((hold b h).symm.trans ho) hn
  .rw[f2];exact⟨hx,hL⟩
section
variable {main:Bool} {R:Value->World->Prop} {T:Frame->World->Prop} {fT:Frame} {K:List Frame}
def T5{g:FuncId}{args:Array Value}{w0:World}(kS:∀τ,Calls P g args (w0.tp τ) λe w'=>∃v,e=.returned v∧R v w'):Ub P w0 (Frame.enter P g args .normal) R:= λτ=>by obtain⟨e,w',fr,⟨v,rfl,h1⟩,⟨n,h2⟩,_,h3⟩:=kS τ [cS.stk];exact⟨n,v,w',fr,h1,h2,h3⟩
def Pos.call{Stop:(Nat->Prop)->Goroutine->World->Prop}(p:Pos P S V cd D)(hQ:Alike P Q)(hh:Ar P Q S){g:FuncId}(hg:S g=true)(XI:Q.funcs[g]?=P.funcs[g]?){args args':Array Value}(ha:VS (FA S V cd (Bd D.A D.w0.heap.size)) args)(XJ:args'=args.map (rv D.f0))
 (kS:∀τ,Calls P g args (D.w0.tp τ) λe w'=>∃v,e=.returned v∧R v w') {c:Frame} {K':List Frame}
 (lU:∀v w' f' dD W',R v w'->FH S V cd Z0 D v w' f' dD W'->Gw Q main Z0 Stop dD (G (c.finish (rv f' v)) K') W'):
 Gw Q main Z0 Stop D.dR (G (Frame.enter Q g args' .normal) (c::K')) D.W0:=
 EA (δ:=Unit) (Stop:= λ_=>Stop) (K:=c::K') hQ p.ground hg XI ha XJ p.wr p.lk kS () (Kt hh (T5 kS)) λhc _ _ h hf=>h.back hQ p.ground hc hf λ_=>lU
def Pos.seg{Stop:(Nat->Prop)->Goroutine->World->Prop}(p:Pos P S V cd D)(hQ:Alike P Q)(hh:Ar P Q S)(hf:jM P (FA S V cd (Bd D.A D.w0.heap.size)) fT)(hm:fT.mode=.run)(hro:fT.roundOf=none)(hT:∀fr w,T fr w->fr.mode=.run)(hit:dr P D.w0 fT T)
 (lU:∀fr w f dD W',T fr w->jM P (FA S V cd (Bd D.A w.heap.size)) fr->FH S V cd Z0 D undef w f dD W'->Gw Q main Z0 Stop dD (G (ic f fr) K) W'):
 Gw Q main Z0 Stop D.dR (G (ic D.f0 fT) K) D.W0:=by
 apply Classical.byContradiction;intro hn
 exact cS.seg (D:=D) (δ:=Unit) (Stop:= λ_=>Stop) (main:=main) (K:=K) (fT:=fT) (T:=T) hQ p.ground hT hit hh (EJ (d0:=()) p.ground hf hm hro p.wr p.lk hn)
  λt s τ h hup hT'=>lU s.fr (s.w.tp τ) s.f s.own s.W hT' h.stk.top (h.ir τ)
def Pos.tail{Post:Value->World->Prop}{q:FuncId}{v0:Value}(p:Pos P S V cd D)(hQ:Alike P Q)(hv0:∀f,rv f v0=v0)(hvs:∀F,vs F v0=true)(hq:∀g,S g=true->Q.funcs[g]?≠P.funcs[g]?->(g=q∧V g=false)∨∀ar cs w,∃o w1,step P (lone (Frame.enter P g ar .normal) cs w)=.ended o w1)
 (hpl:Plain P q v0) (hfl:Flat Q q v0) (tj:∀b,D.L b->D.dR b) (hgl:Q.globals.size<D.W0.heap.size) (hmain:∀g,S g=true->Q.inits.idxOf? g=none)
 (hf:jM P (FA S V cd (Bd D.A D.w0.heap.size)) fT) (hm:fT.mode=.run) (hro:fT.roundOf=none) (kS:Ub P D.w0 fT R)
 (hpost:∀v w' f' dD W',R v w'->FH S V cd Z0 D v w' f' dD W'->Post (rv f' v) W') (dead:Nat->Prop):
 iF Q Post dead D.dR (G (ic D.f0 fT) []) D.W0:=by
 refine iF.walk ?_ rfl rfl
 apply Classical.byContradiction;intro hn;exact fj (main:=true) (Stop:= λd=>iF Q Post d) (R:=R) (fT:=fT) (K:=[]) hQ p.ground kS (EJ (d0:=dead) p.ground hf hm hro p.wr p.lk hn) (OC kS hv0 hvs hq hpl hfl tj hgl p.ground.Uy) λh vg=>h.last hQ p.ground kS vg hmain hpost
end
end
section
variable {P Q:Program} {S V:FuncId->Bool} {cd:Code->Bool} {L:List Part} {bad:TypeId} {W:World}
def bN(good:∀A:Nat->Bool,letI:=zi L bad;kL P (FA S V cd A))(gD:iA P=true)(hg0:P.globals.size=0)(hbad:P.info? bad=none)(hcc:∀t i,P.info? t=some i->∀u,i.desc≠ .named "sync.copyChecker" u)
 (hW:0<W.heap.size) (hL:∀x∈L,x.h=false->U9 L bad W x):letI:=zi L bad;Pos P S V cd (af1 L bad W):=by
 letI:=zi L bad
 have hget:∀b,1<=b->b<(wL L bad W).heap.size->∃x,L[b-1]?=some x∧x∈L:= λb h1 h2=>by
  rw[sQ]at h2;have h3:b-1<L.length:=by omega
  exact⟨_,List.getElem?_eq_getElem h3,List.getElem_mem h3⟩
 have hlt:∀b,b<(wL L bad W).heap.size->Sh.hol b=false->fL L b<W.heap.size:= λb hb hh=>by
  rcases Nat.eq_zero_or_pos b with rfl|h
  .rw[F5];exact hW
  .obtain⟨x,hx,hm⟩:=hget b h hb;rw[Mx h hx];exact(hL x hm ((zM (bad:=bad) h hx).2.2.symm.trans hh)).lt
 have ao0:∀a,a<(wL L bad W).heap.size->Sh.lk a=false->a=0:= λa ha h=>by
  rcases Nat.eq_zero_or_pos a with rfl|h1
  .rfl
  .obtain⟨x,hx,_⟩:=hget a h1 ha;rw[(zM (bad:=bad) h1 hx).2.1]at h;cases h
 refine⟨⟨good,gD,?_, λb hb=>?_,hlt, λa b ha hb hla OS hab=>?_, λb hb=>?_, λb h=>hbad, λb h=>hcc, λb h=>?_, λb hb ZQ=>.inl (hlt b hb (xe.1 ZQ).2), λb hb=>?_, λb hb=>⟨hb, λh=>h, λh=>h⟩, λb h=>h.elim, λb h=>h.elim, λb i h=>h.elim, λb hb=>⟨hb,.inr hb⟩, λh=>h, λb hb=>(xe.1 hb).2⟩,⟨λb hb hA=>hlt b hb (xe.1 (gH.1 hA).1).2, λb o hb ho=>?_⟩, λb o ZQ ho hnl=>?_⟩
 .show _<(wL L bad W).heap.size;rw[hg0,sQ];omega
 .rw[hg0]at hb;obtain rfl:b=0:=by omega
  exact F5 (L:=L)
 .obtain rfl:=ao0 a ha hla;have hab:fL L 0=fL L b:=hab;rw[F5]at hab;rcases Nat.eq_zero_or_pos b with rfl|h
  .rfl
  .obtain⟨x,hx,hm⟩:=hget b h hb;rw[Mx h hx]at hab;have :=(hL x hm ((zM (bad:=bad) h hx).2.2.symm.trans OS)).pos;omega
 .rw[hg0]at hb;exact decide_eq_false (by omega)
 .have h:decide (1<=b∧b<=L.length)=true:=h;have :=of_decide_eq_true h;show b<(wL L bad W).heap.size;rw[sQ];omega
 .have hb:(wL L bad W).heap.size<=b:=hb;rw[sQ]at hb;refine xe.2 ⟨by omega,?_⟩;cases hx:F4 L b with
  |false=>rfl
  |true=>have :=of_decide_eq_true (Mw hx);omega
 .obtain⟨hb1,hb2⟩:=xe.1 (gH.1 hb).1;obtain⟨x,hx,rfl⟩:=Rb hb1 ho;obtain⟨s1,s2,s3⟩:=zM (bad:=bad) hb1 hx;have hl:=hL x (List.mem_of_getElem? hx) (s3.symm.trans hb2);obtain⟨C,e,fr,h1,h2⟩:=hl.cells;refine .inr (.inr ⟨s2,x.c,(0,x.c.size),C,e,fr,rfl, λv hv=>?_, λi hi=>⟨Nat.zero_le _,hi⟩,?_, λi v hv=>?_⟩)
  .show vs (FA S V cd (Bd (aL L) (wL L bad W).heap.size)) v=true;rw[sQ];exact hl.ok v hv S V cd
  .show W.heap[fL L b]?=_
   rw[Mx hb1 hx];exact h1
  .show C[i+(zi L bad).sh b]?=some (rv (fL L) v)
   rw[s1];exact h2 i v hv
 .obtain⟨x,hx,rfl⟩:=Rb (xe.1 ZQ).1 ho;exact absurd ⟨_,_,_,rfl, λi hi=>⟨Nat.zero_le _,hi⟩⟩ hnl
end
end cS
end
section
namespace cS
open Go Go.Conc Go.ConcM Go.ConcN
section
variable [Sh] {P Q:Program} {S V:FuncId->Bool} {cd:Code->Bool} {D:Oc} {As:Nat->Prop}
def K0(w:World):World:={ w with heap:=w.heap.map Ws }
def C0(w:World):(K0 w).heap.size=w.heap.size:=by unfold K0;simp
def T2(w:World)(τ:Nat->Question->Nat)(b o:Nat):((K0 w).tp τ).cell? ⟨b,o,none⟩=w.cell? ⟨b,o,none⟩:=by
 have h:((K0 w).tp τ).heap[b]?=(w.heap[b]?).map Ws:=by
  show(w.heap.map Ws)[b]?=_
  rw[Array.getElem?_map]
 unfold World.cell?;simp only[h];cases hb:w.heap[b]? with
 |none=>rfl
 |some x=>cases x<;>rfl
def S4(S V:FuncId->Bool)(cd:Code->Bool)(D:Oc)(As:Nat->Prop):Prop:=
 ∀b,As b->b<D.w0.heap.size∧D.A b=true∧∃c e fr,D.w0.heap[b]?=some (.cells c e fr)∧VS (FA S V cd (Bd (iL As D.w0.heap.size) D.w0.heap.size)) c
def Pos.lean(p:Pos P S V cd D)(h:S4 S V cd D As):Pos P S V cd ⟨K0 D.w0,D.W0,D.f0,D.dR,D.dR,iL As D.w0.heap.size⟩:=by
 obtain⟨g,w,l⟩:=p;have hA:∀b,b<D.w0.heap.size->iL As D.w0.heap.size b=true->As b:= λb hb hx=>(mZ.1 hx).resolve_right (by omega)
 have a0:∀b,b<D.w0.heap.size->D.A b=true->D.dR (D.f0 b):= λb hb hA=>(g.a0 b hb hA).resolve_right λx=>x
 have hs:∀b,b<(K0 D.w0).heap.size->b<D.w0.heap.size:= λb hb=>by rw[C0]at hb;exact hb
 have hget:∀b o,(K0 D.w0).heap[b]?=some o->b<D.w0.heap.size∧∃o0,D.w0.heap[b]?=some o0∧o=Ws o0:= λb o ho=>by
  have:(D.w0.heap.map Ws)[b]?=some o:=ho
  rw[Array.getElem?_map]at this;obtain⟨o0,h1,h2⟩:=Option.map_eq_some_iff.1 this;exact⟨(Array.getElem?_eq_some_iff.1 h1).1,o0,h1,h2.symm⟩
 refine⟨⟨g.good,g.gD,by rw[C0];exact g.ja,g.xT, λb hb hh=>g.XC b (hs b hb) hh, λa b ha hb=>g.bV a b (hs a ha) (hs b hb),g.ZN,g.bad,g.cc, λb hb=>by rw[C0];exact g.oT b hb, λb hb hx=>.inl (a0 b (hs b hb) (h b (hA b (hs b hb) hx)).2.1), λb hb=>mZ.2 (.inr (by rw[<-C0 D.w0];exact hb)),g.own,g.ro,g.sy,g.cl, λb hb=>⟨(g.own b hb).1,.inr hb⟩,g.nm, λb hb=>?_⟩,
  ⟨λb hb hx=>?_, λb o hb ho=>?_⟩, λb o hx ho hn=>?_⟩
 .by_cases hlt:b<D.w0.heap.size
  .exact g.Uy b (h b (hA b hlt hb)).2.1
  .exact g.hge (by omega)
 .have hb:=hs b hb;have hx:=(gH.1 hx).1;exact w.lt b hb (gH.2 ⟨(h b (hA b hb hx)).2.1,hb⟩)
 .obtain⟨hlt,o0,h1,rfl⟩:=hget b o ho;obtain⟨_,h2,c,e,fr,h3,h4⟩:=h b (hA b hlt (gH.1 hb).1);rw[h1]at h3;cases h3;have key:=w.blk b _ (gH.2 ⟨h2,hlt⟩) h1;show BR (FA S V cd (Bd (iL As D.w0.heap.size) (K0 D.w0).heap.size)) D.f0 b _ _;rw[C0];rcases key with⟨_,_,k3,_⟩|⟨k0,c',e',qh,fr',k1,_,k3,_⟩|⟨k0,c',qh,C,e',fr',k1,_,_,k4,k5⟩
  .cases k3
  .cases k1;exact .inr (.inl ⟨k0,c,e,(0,c.size),fr',rfl,h4,k3, λi hi _ _=>⟨Nat.zero_le _,hi⟩⟩)
  .cases k1;exact .inr (.inr ⟨k0,c,(0,c.size),C,e',fr',rfl,h4, λi hi=>⟨Nat.zero_le _,hi⟩,k4,k5⟩)
 .obtain⟨hlt,o0,h1,rfl⟩:=hget b o ho;obtain⟨_,_,c,e,fr,h3,_⟩:=h b (hA b hlt hx);rw[h1]at h3;cases h3;exact absurd ⟨c,e,(0,c.size),rfl, λi hi=>⟨Nat.zero_le _,hi⟩⟩ hn
structure ZH(n m:Nat)(w':World)(f':Nat->Nat)(dD:Nat->Prop)(W':World):Prop where
 ge:∀b,n<=b->b<w'.heap.size->m<=f' b∧f' b<W'.heap.size∧dD (f' b)
 sh:∀b,n<=b->Sh.sh b=0
 blk:∀b c e fr,n<=b->w'.heap[b]?=some (.cells c e fr)->∃fr',W'.heap[f' b]?=some (.cells (c.map (rv f')) e fr')
 cell:∀b o v,n<=b->w'.cell? ⟨b,o,none⟩=some v->W'.cell? ⟨f' b,o,none⟩=some (rv f' v)
def FH.made{v:Value}{w':World}{f':Nat->Nat}{dD:Nat->Prop}{W':World}(g:Ground P S V cd Z0 D)(h:FH S V cd Z0 D v w' f' dD W'):ZH D.w0.heap.size D.W0.heap.size w' f' dD W':=by
 have hbd:∀b,D.w0.heap.size<=b->b<w'.heap.size->Bd D.A w'.heap.size b=true:= λb h1 h2=>gH.2 ⟨g.af b h1,h2⟩
 have hlk:∀b,D.w0.heap.size<=b->Sh.lk b=false:= λb hb=>by
  cases hx:Sh.lk b with
  |false=>rfl
  |true=>have :=g.oT b hx;omega
 have blk:∀b c e fr,D.w0.heap.size<=b->w'.heap[b]?=some (.cells c e fr)->∃fr',W'.heap[f' b]?=some (.cells (c.map (rv f')) e fr'):= λb c e fr h1 hx=>by
  have h2:=(Array.getElem?_eq_some_iff.1 hx).1;rcases h.wr.blk b _ (hbd b h1 h2) hx with⟨_,_,k3,_⟩|⟨_,c',e',qh,fr',k1,k2,k3,_⟩|⟨k1,_⟩
  .cases k3
  .cases k1;exact⟨fr',k3⟩
  .rw[hlk b h1]at k1;cases k1
 refine⟨λb h1 h2=>⟨h.Wt b h1 h2,h.DY b h2 (LM (hlk b h1)),(h.img b h2 (g.af b h1)).resolve_right λx=>x⟩, λb h1=>Sh.Xp b (hlk b h1),blk, λb o v h1 hc=>?_⟩;unfold World.cell? at hc;cases hx:w'.heap[b]? with
 |none=>simp only[hx]at hc;cases hc
 |some x=>
  have h2:=(Array.getElem?_eq_some_iff.1 hx).1;simp only[hx]at hc;rcases h.wr.blk b x (hbd b h1 h2) hx with⟨_,_,k3,k4⟩|⟨_,c,e,fr,fr',rfl,k2,k3,_⟩|⟨k1,_⟩
  .cases x<;>first|(cases hc;done)|skip
   cases k3
  .unfold World.cell?;simp only[k3];have hc:c[o]?=some v:=hc
   show(c.map (rv f'))[o]?=_
   rw[Array.getElem?_map,hc];rfl
  .rw[hlk b h1]at k1;cases k1
def FH.kept'{v:Value}{w':World}{f':Nat->Nat}{dD:Nat->Prop}{W':World}(h:FH S V cd Z0 D v w' f' dD W')(hL:∀b,D.dR b->D.L b):Kept Z0 D.dR D.W0 dD W':=
 ⟨⟨h.since.tape,h.since.out,h.since.os,h.since.size, λb hb=>h.kept b (hL b hb), λb x=>x.elim, λb x=>x.elim, λb i x=>x.elim⟩,h.owns, λb hb=>(h.PM b hb).imp id λx=>⟨x,h.Wu b hb⟩⟩
end
end cS
end
section
namespace Go.Proofs.Tryz
open Go Go.RowKit Go.ChangeShapes Go.WideShapes Go.ChangeAt Go.Conc Go.ConcM cS
def ρo:List FuncId:=l0++ [18,78,79,104]
end Go.Proofs.Tryz
end
section
namespace Go.Proofs.Tryz
open Go Go.Conc Go.ConcN Go.ConcM Go.RowKit Go.Conc.Lib Go.ConcR.Gen cS
section
variable [cS.Sh] {st:Lo.St} {S V:FuncId->Bool} {cd:Code->Bool} {D:Oc} {As:Nat->Prop} {b:dO} {v:gJ}
def NE(v:gJ)(f:Nat->Nat):gJ:={ v with ah:=v.ah.map (ra f),ap:=v.ap.map (ra f),iT:=v.iT.map (ra f),ac:=v.ac.map (ra f) }
def y3(f:Nat->Nat)(b:dO)(v:gJ):rv f (dY b v)=dY b (NE v f):=by unfold dY NE;simp
structure Follows(P:Program)(S:FuncId->Bool):Prop where
 alike:cS.Alike P Tryz.prog
 bI:Ar P Tryz.prog S
 lz:S 19=true
 s56:S 20=true
 e17:Tryz.prog.funcs[19]?=P.funcs[19]?
 e56:Tryz.prog.funcs[20]?=P.funcs[20]?
def cF(F:Follows (@Lo.prog st) S)(p:Pos (@Lo.prog st) S V cd D)(hl:S4 S V cd D As)(hv:vs (FA S V cd (Bd (iL As D.w0.heap.size) D.w0.heap.size)) (dY b v)=true)(hb:fC D.w0 D.w0.heap.size b v)(hs:b.small)(hc:fG b=0):lA D.dR D.W0 b (NE v D.f0):=by
 refine⟨λown W Stop fT K' hk hlt hr=>?_, λown W Stop fT K' hk hlt hr=>?_⟩
 .have p1:=(p.move hk.rely.size hk.rely.own hk.sub hlt).lean (As:=As) hl;refine p1.call F.alike F.bI F.lz F.e17 (args:= #[dY b v]) (R:= λx _=>x=.int .i64 0) (λx hx=>?_) (by simp only[List.map_toArray,List.map_cons,List.map_nil,y3]) (λτ=>?_) λv' w' f' dD W' hR hB=>?_
  .simp only[List.mem_toArray,List.mem_cons,List.not_mem_nil,or_false]at hx;subst hx;show vs (FA S V cd (Bd (iL As D.w0.heap.size) (K0 D.w0).heap.size)) _=true;rw[C0];exact hv
  .refine(@Lo.wE st ((K0 D.w0).tp τ) D.w0.heap.size b v (hb.keep λb o _=>T2 _ _ b o) (Nat.le_of_eq (C0 D.w0).symm) hs).mono λe w' h=>⟨_,h.1,by rw[hc]⟩
  .subst hR;rw[iC];exact hr dD W' (hB.kept' λb hb=>hb)
 .have hg:=lM hs hc;have p1:=(p.move hk.rely.size hk.rely.own hk.sub hlt).lean (As:=As) hl;have hsz:(K0 D.w0).heap.size=D.w0.heap.size:=C0 _;refine p1.call F.alike F.bI F.s56 F.e56 (args:= #[dY b v,.int .i64 (-1)]) (R:= λx w'=>∃bw y,x=.pointer (some ⟨bw,0,none⟩)∧D.w0.heap.size<=bw∧bw<w'.heap.size∧fQ w' bw D.w0.heap.size b.steps.length (dZ b (-1)) (fA b (-1)) y) (λx hx=>?_) (by simp only[List.map_toArray,List.map_cons,List.map_nil,y3,iC]) (λτ=>?_) λx w' f' dD W' hR hB=>?_
  .show vs (FA S V cd (Bd (iL As D.w0.heap.size) (K0 D.w0).heap.size)) _=true;rw[hsz];simp only[List.mem_toArray,List.mem_cons,List.not_mem_nil,or_false]at hx;rcases hx with rfl|rfl
   .exact hv
   .simp
  .refine(@Lo.ER st ((K0 D.w0).tp τ) D.w0.heap.size b v (hb.keep λb o _=>T2 _ _ b o) (Nat.le_of_eq hsz.symm) hg (-1) (by omega)).mono λe w' h=>?_
   obtain⟨bw,y,h1,h2,h3,h4,_⟩:=h;have h2:(K0 D.w0).heap.size<=bw:=h2;have h4:fQ w' bw (K0 D.w0).heap.size b.steps.length (dZ b (-1)) (fA b (-1)) y:=h4;rw[hsz]at h2 h4;exact⟨_,h1,bw,y,rfl,h2,h3,h4⟩
  .obtain⟨bw,y,rfl,h1,h2,h3⟩:=hR
   have hm:ZH D.w0.heap.size W.heap.size w' f' dD W':=by
    have :=hB.made p1.ground;have this:ZH (K0 D.w0).heap.size W.heap.size w' f' dD W':=this
    rwa [hsz]at this
   have hkp:=hB.kept' λb hb=>hb
   obtain⟨A,cap,rfl,hat⟩:=h3.at (MN b (-1) hg) (MR b (-1) hg);obtain⟨q1,q2,q3⟩:=hm.ge bw h1 h2
   have e0:rv f' (.pointer (some ⟨bw,0,none⟩))=.pointer (some ⟨f' bw,0,none⟩):=by rw[dX];show Value.pointer (some ⟨f' bw,0+Sh.sh bw,none⟩)=_;rw[hm.sh bw h1]
   rw[e0];obtain⟨fr',b1⟩:=hm.blk _ _ _ _ h1 h3.blk;have b2:W'.heap[f' bw]?=some (.cells #[.slice (A.map (ra f')) (fA b (-1)).length cap,.int .i64 (b.steps.length:Int),.int .i64 (dZ b (-1):Int)] 86 fr'):=by rw[b1];simp
   have hge:∀a,A=some a->D.w0.heap.size<=a.block∧a.block<w'.heap.size∧∃cur e,w'.heap[a.block]?=some (.cells cur e)∧∀x∈cur,eF x=true:= λa ha=>by have hp:=h3.pl;have hr:=h3.row;rw[ha]at hp hr;obtain⟨l1,l2⟩:=hr.lt a.block rfl;exact⟨l1,l2,hp a.block rfl⟩
   have plain:∀{c:Array Value},(∀x∈c,eF x=true)->c.map (rv f')=c:= λ{c}h=>by
    have:c.map (rv f')=c.map id:=Array.map_congr_left λx hx=>(iP (F:=⟨λ_=>false, λ_=>false, λ_=>false, λ_=>false⟩) (h x hx)).1
    rw[this,Array.map_id]
   refine hr dD W' (f' bw) (A.map (ra f')) cap hkp ⟨q3,⟨_,_,b2⟩,⟨q2,?_,?_,?_, λhn=>?_,hat.ok,hat.len⟩, λa ha=>?_⟩ q1 λa ha=>?_
   .rw[hm.cell _ _ _ h1 hat.c0];simp
   .rw[hm.cell _ _ _ h1 hat.c1];simp
   .rw[hm.cell _ _ _ h1 hat.c2];simp
   .obtain⟨bb,off,e,p1,p2⟩:=hat.rd hn;subst e;obtain⟨k1,k2,_⟩:=hge _ rfl;refine⟨f' bb,off,by show some (⟨f' bb,off+Sh.sh bb,none⟩:Addr)=_;rw[hm.sh bb k1];rfl,(hm.ge _ k1 k2).2.1, λi j hi hj=>?_⟩;rw[hm.cell _ _ _ k1 (p2 i j hi hj)];unfold sU
    match j,hj with
    |0,_=>rw[show((((fA b (-1))[i]?).getD ⟨0,0,0,0⟩).cells 0)=.int .i64 (((fA b (-1))[i]?).getD ⟨0,0,0,0⟩).lo from rfl,iC]
    |1,_=>rw[show((((fA b (-1))[i]?).getD ⟨0,0,0,0⟩).cells 1)=.int .i64 (((fA b (-1))[i]?).getD ⟨0,0,0,0⟩).hi from rfl,iC]
    |2,_=>rw[show((((fA b (-1))[i]?).getD ⟨0,0,0,0⟩).cells 2)=.int .i64 ((((fA b (-1))[i]?).getD ⟨0,0,0,0⟩).fr:Int)from rfl,iC]
    |3,_=>rw[show((((fA b (-1))[i]?).getD ⟨0,0,0,0⟩).cells 3)=.int .i64 ((((fA b (-1))[i]?).getD ⟨0,0,0,0⟩).to:Int)from rfl,iC]
   .cases hA:A with
    |none=>rw[hA]at ha;cases ha
    |some a0=>
     rw[hA]at ha;have ha:some (ra f' a0)=some a:=ha;cases ha;obtain⟨l1,l2,cur,e,c1,c2⟩:=hge a0 hA;obtain⟨fr',c3⟩:=hm.blk _ _ _ _ l1 c1;rw[plain c2]at c3;exact⟨(hm.ge _ l1 l2).2.2,cur,e,fr',c3,c2⟩
   .cases hA:A with
    |none=>rw[hA]at ha;cases ha
    |some a0=>
     rw[hA]at ha;have ha:some (ra f' a0)=some a:=ha;cases ha;obtain⟨l1,l2,_⟩:=hge a0 hA;exact(hm.ge _ l1 l2).1
end
section
variable [cS.Sh] {st:Lo.St} {S V:FuncId->Bool} {cd:Code->Bool} {D:Oc} {As:Nat->Prop} {b:dO} {v:gJ} {Post:Value->World->Prop} {dead:Nat->Prop}
structure cN(D D':Oc):Prop where
 L:D'.L=D.L
 A:D'.A=D.A
 lone:Below D.w0.heap.size D.w0 D'.w0
 tape:D'.W0.tape=D.W0.tape
 out:D'.W0.output=D.W0.output
 os:OsLater D.W0.os D'.W0.os
 size:D.W0.heap.size<=D'.W0.heap.size
 kept:∀b,D.dR b->D'.W0.heap[b]?=D.W0.heap[b]?
 sub:∀b,D.dR b->D'.dR b
def T3(A:Option Addr)(n cap:Nat)(eO found:Bool):Value:=.tuple #[.slice A n cap,.bool eO,.bool found,.int .i64 0]
def eN(F:Follows (@Lo.prog st) S)(p:Pos (@Lo.prog st) S V cd D)(hl:S4 S V cd D As)(hv:vs (FA S V cd (Bd (iL As D.w0.heap.size) D.w0.heap.size)) (dY b v)=true)(hb:fC D.w0 D.w0.heap.size b v)(hs:b.small)(hc:fG b=0)
 {g:FuncId} {a:Act} {ops:Array Oper} {i:Nat} {rest:List Nat} {kk:List Item} {o:Oper} {t:Nat} {ats:Array TypeId} {K:List Frame} (hd:a.defers= []) (ho:ops[i]?=some o) (hw:∀y,Region.wanted o y=true) (hop:o.op=.call { callee:=.value (.func 6),args:= #[.tmp t],argTypes:=ats }) (hx:a.tmps[t]?=some (dY b v))
 (hf:jM (@Lo.prog st) (FA S V cd (Bd D.A D.w0.heap.size)) ((base g).at a (.inRegion ops (i::rest)::kk)))
 (hk:∀(D':Oc)(A:Option Addr)(cap:Nat)(st':List Int)(eO found:Bool)(mJ:Nat->Prop),lq (fU (fA b (-1)) b.steps.length (iI (fA b (-1)) b.steps.length false).length (iI (fA b (-1)) b.steps.length true).length) st' eO found->st'.length<=16->Pos (@Lo.prog st) S V cd D'->cN D D'->xJ D'.w0 D'.w0.heap.size A st'->
   jM (@Lo.prog st) (FA S V cd (Bd D'.A D'.w0.heap.size)) (((base g).at a (.inRegion ops (i::rest)::kk)).finish (T3 A st'.length cap eO found))->iF Tryz.prog Post mJ D'.dR (G (ic D'.f0 (((base g).at a (.inRegion ops (i::rest)::kk)).finish (T3 A st'.length cap eO found))) K) D'.W0):
 iF Tryz.prog Post dead D.dR (G (ic D.f0 ((base g).at a (.inRegion ops (i::rest)::kk))) K) D.W0:=by
 have gd:=p.ground
 have S6:Tryz.prog.globals.size<D.W0.heap.size:=by
  have h1:=gd.ja;have h0:D.w0.heap.size≠0:=by omega
  have h2:=gd.XC (@Lo.prog st).globals.size h1 (LM (gd.ZN _ (Nat.le_refl _)));rw[gd.xT _ (Nat.le_refl _)]at h2;rw[F.alike.globals];exact h2
 have er:ic D.f0 ((base g).at a (.inRegion ops (i::rest)::kk))=(base g).at ⟨a.tmps.map (rv D.f0),[]⟩ (.inRegion ops (i::rest)::kk.map (ql D.f0)):=by unfold ic Frame.at;rw[hd];simp[ql,base]
 refine iF.walk ?_ rfl rfl
 rw[er];refine nK ho (hw _) (by intro h;cases h) hop Tryz.func6 TN JC λW1 hr1=>?_
 rw[<-er]
 have ea:(#[Operand.tmp t]:Array Operand).map (Act.eval ⟨a.tmps.map (rv D.f0),[]⟩)= #[dY b (NE v D.f0)]:=by simp only[List.map_toArray,List.map_cons,List.map_nil];show#[(a.tmps.map (rv D.f0)).getD t undef]=_;rw[show(a.tmps.map (rv D.f0)).getD t undef=rv D.f0 (dY b v)from by rw[Array.getD_eq_getD_getElem?,Array.getElem?_map,hx];rfl,y3]
 rw[ea];refine .stop λW2 hr2=>?_
 have hr:=hr1.trans hr2;have p2:=p.move (dD:=D.dR) hr.size hr.own (λ_ h=>h) λb hb=>Nat.lt_of_lt_of_le (gd.own b hb).1 hr.size
 refine cH (cF F p2 hl hv hb hs hc) (Nat.lt_of_lt_of_le S6 hr.size) (by have :=(lM hs hc).n8;omega) ?_
 intro mJ dD W' A cap st' eO found iq hsl hfr hlen a1 a2 a3 a4 a5 a6 a7 a8;have p3:=p2.move a4 a5 a6 a8
 have vg:∀(f':Nat->Nat)(x:Option Addr),(∀b,b<D.w0.heap.size->f' b=D.f0 b)->x.map (ra f')=A->(ic D.f0 ((base g).at a (.inRegion ops (i::rest)::kk))).finish (.tuple #[.slice A st'.length cap,.bool eO,.bool found,.int .i64 0])=ic f' (((base g).at a (.inRegion ops (i::rest)::kk)).finish (T3 x st'.length cap eO found)):= λf' x e1 e2=>by have h1:ic D.f0 ((base g).at a (.inRegion ops (i::rest)::kk))=ic f' ((base g).at a (.inRegion ops (i::rest)::kk)):=zF (F:=FA S V cd (Bd D.A D.w0.heap.size)) (λb hb=>(e1 b (gd.below (Nat.le_refl _) hb)).symm) hf;rw[h1, <-oZ (F:=FA S V cd (Bd D.A D.w0.heap.size)) _ _ hf.todo];unfold T3;simp only[qY,List.map_toArray,List.map_cons,List.map_nil,fD,jZ,iC,e2]
 have went:∀D':Oc,D'.L=D.L->D'.A=D.A->Below D.w0.heap.size D.w0 D'.w0->D'.W0=W'->D'.dR=dD->cN D D':= λD' e1 e2 e3 e4 e5=>
  ⟨e1,e2,e3,by rw[e4];exact a1.trans hr.tape,by rw[e4];exact a2.trans hr.out,by rw[e4];exact hr.os.trans a3,by rw[e4];exact Nat.le_trans hr.size a4, λb hb=>by rw[e4];exact(a5 b hb).trans (hr.own b hb), λb hb=>by rw[e5];exact a6 b hb⟩
 cases hA:A with
 |none=>
  subst hA;rw[vg D.f0 none (λ_ _=>rfl) rfl];refine hk ⟨D.w0,W',D.f0,D.L,dD,D.A⟩ none cap st' eO found mJ iq hlen p3 (went _ rfl rfl (Below.refl _ _) rfl rfl) (λhn=>?_) (hf.finish (q9.2 λx hx=>?_))
  .obtain⟨_,_,e,_⟩:=hsl.rd hn;cases e
  .simp only[List.mem_toArray,List.mem_cons,List.not_mem_nil,or_false]at hx;rcases hx with rfl|rfl|rfl|rfl<;>simp[JG]
 |some x=>
  subst hA;obtain⟨k1,cur,e,fr,k2,k3⟩:=hsl.blk x rfl;have k4:W2.heap.size<=x.block:=hfr x rfl;have hsz:(D.w0.alloc (.cells cur e fr)).heap.size=D.w0.heap.size+1:=by show(Array.push _ _).size=_;rw[Array.size_push]
  have p4:=p3.push (x:=x.block) (cur:=cur) (e:=e) (fr:=fr) (λb hb hh=>Nat.lt_of_lt_of_le (Nat.lt_of_lt_of_le (gd.XC b hb hh) hr.size) k4) k1 (λhL=>by have :=(gd.lL _ hL).1;have :=hr.size;omega) k2 k3
  have hsh:Sh.sh D.w0.heap.size=0:=Sh.Xp _ (by
   cases hx:Sh.lk D.w0.heap.size with
   |false=>rfl
   |true=>have :=gd.oT _ hx;omega)
  obtain⟨f',hf'⟩:∃f':Nat->Nat,f'= λb=>if b<D.w0.heap.size then D.f0 b else x.block+(b-D.w0.heap.size):=⟨_,rfl⟩
  have e1:∀b,b<D.w0.heap.size->f' b=D.f0 b:= λb hb=>by rw[hf'];exact if_pos hb
  have e2:f' D.w0.heap.size=x.block:=by rw[hf'];simp
  have e3:(some (⟨D.w0.heap.size,x.off,x.spot⟩:Addr)).map (ra f')=some x:=by show some (⟨f' D.w0.heap.size,x.off+Sh.sh D.w0.heap.size,x.spot⟩:Addr)=_;rw[e2,hsh];rfl
  rw[vg f' (some ⟨D.w0.heap.size,x.off,x.spot⟩) e1 e3];have p4:Pos (@Lo.prog st) S V cd ⟨D.w0.alloc (.cells cur e fr),W',f',D.L,dD,D.A⟩:=by rw[hf'];exact p4
  have hnew:(D.w0.alloc (.cells cur e fr)).heap[D.w0.heap.size]?=some (.cells cur e fr):=by show(Array.push _ _)[_]?=_;simp
  have hmono:jM (@Lo.prog st) (FA S V cd (Bd D.A (D.w0.alloc (.cells cur e fr)).heap.size)) ((base g).at a (.inRegion ops (i::rest)::kk)):=jM.mono (F:=FA S V cd (Bd D.A D.w0.heap.size)) (F':=FA S V cd (Bd D.A (D.w0.alloc (.cells cur e fr)).heap.size)) ⟨rfl,rfl⟩ rfl (Wq (by omega)) hf;refine hk ⟨D.w0.alloc (.cells cur e fr),W',f',D.L,dD,D.A⟩ (some ⟨D.w0.heap.size,x.off,x.spot⟩) cap st' eO found mJ iq hlen p4 (went _ rfl rfl ((Below.refl _ _).alloc (Nat.le_refl _) _) rfl rfl) (λhn=>?_) (hmono.finish (q9.2 λy hy=>?_))
  .obtain⟨bb,off,q0,q1,q2⟩:=hsl.rd hn;cases q0;refine⟨D.w0.heap.size,off,rfl,by show D.w0.heap.size<(D.w0.alloc (.cells cur e fr)).heap.size;omega, λi j hi hj=>?_⟩;have q3:=q2 i j hi hj;unfold World.cell? at q3⊢;simp only[k2]at q3;show(match(D.w0.alloc (.cells cur e fr)).heap[D.w0.heap.size]? with |_=>_)=_;simp only[hnew];exact q3
  .simp only[List.mem_toArray,List.mem_cons,List.not_mem_nil,or_false]at hy;rcases hy with rfl|rfl|rfl|rfl
   .rw[gY];exact qH (gH.2 ⟨gd.af _ (Nat.le_refl _),by show D.w0.heap.size<(D.w0.alloc (.cells cur e fr)).heap.size;omega⟩)
   all_goals simp
end
end Go.Proofs.Tryz
end
