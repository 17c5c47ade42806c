/- Part 7. -/
import Derived.Deep.Slices
import Derived.Conc.HoldsTime
import Derived.Test.YtjoahejacacljaaGreatH06
set_option maxRecDepth 100000
set_option maxHeartbeats 0
set_option linter.all false
namespace cS
open Go Go.ChangeShapes Go.WideShapes Go.ChangeAt Go.RowKit Go.Deep Go.Conc Go.ConcM
section
section
variable {H:Type} {enc:TypeId×Value->H} {P:Program} {W W':World}
def Ei(hl:laidOutB P=true)(hb:Below W.heap.size W W'):∀{ts:List TypeId}{vs:List Value}{ds:List (DataW H)}{ps:List MemPlace},(∀t∈ts,P.readableRec t=true∧t<P.types.size)->
 DataW.TrodAll enc P W 0 (λ_=>true) true ts vs ds ps->(∀x∈ps,x.block<W.heap.size)->DataW.TrodAll enc P W' 0 (λb=>decide (b<W.heap.size)) true ts vs ds ps
 | [],[],[],_,_,h,_=>h
 |_::_,_::_,_::_,_,hT,⟨p,q,h1,h2,e⟩,hs=>
  ⟨p,q,Below.trod hl (hT _ (bD.2 (.inl rfl))).1 (hT _ (bD.2 (.inl rfl))).2 h1 hb (λx hx=>hs x (by rw[e];exact List.mem_append_left _ hx)),
    Ei hl hb (λt ht=>hT t (bD.2 (.inr ht))) h2 (λx hx=>hs x (by rw[e];exact List.mem_append_right _ hx)),e⟩
def PR{a:Assume}{C:Checked}{os:Os}{f:FuncId}{fn:Func}{s:ChangeSpec}{F:Stop.Interp}{conds:List PathCond}{apart fresh handsOn:Bool}
 (own:ownKnob C.prog.godebug=none) (started:os.Started) (hfn:C.prog.funcs[f]?=some fn)
 (witness:∃(w:World)(tape:Tape)(i:Input),w.os=os∧(w.forCall tape i).Shaped C.prog∧i.vars= []∧Input.okWide C.prog (w.forCall tape i) .any w.heap.size f i∧
   s.pre6 enc C.prog fn conds apart (w.forCall tape i).memory i.args∧a.holds C.prog (lone (Frame.enter C.prog f i.args .normal) [] (w.forCall tape i)))
 (runs:∀(W:World)(base:Nat)(args:Array Value)(ds gs:List (DataW H))(before:List MemPlace),W.ShapedOpen C.prog->
   (∀(j:Nat)t v,fn.params[j]?=some t->args[j]?=some v->Value.okWide C.prog W .any base t v)->
   DataW.Whole enc C.prog fn.params.toList s.vars apart W args.toList ds gs before->
   conds.all (PathCond.test C.prog ⟨fn.params.toList,ds,s.plain.varTypes C.prog,gs⟩)=true->
   Ends C.prog (λv W'=>s.post enc C.prog fn apart fresh handsOn false W args v { W' with os:=W.os }∧OsLater W.os W'.os) (solo (G (Frame.enter C.prog f args .normal) []) W) #[]):
 ReturnsInLeavingWide a C os f .any (s.pre6 enc C.prog fn conds apart) ((OpenSpec.ofChange s).postWith enc C.prog fn F (outsideKept [.timePasses]) apart fresh handsOn):=by
 refine returnsInLeavingWide_of_good own started witness ?_
 intro w tape i _ hsh _ hok hpre hholds;obtain⟨_,_,_,fn',hfn',_,_,_,_,hval⟩:=hok;have e:fn'=fn:=aT (hfn'.symm.trans hfn);subst e;obtain⟨⟨ds,gs,before,hw,hc⟩,hz⟩:=hpre;have hw':=DataW.Whole.of_heap (w':=w.forCall tape i) (by rfl) hw;obtain⟨M,last,o,w',t',h1,h2,h3,h4⟩:=runs (w.forCall tape i) w.heap.size i.args ds gs before hsh hval hw' hc;obtain⟨v,e,hp,r1,r2,r3,r4⟩:=h4;exact⟨M,last,o,w',t',h1,h2,h3,v,e,postWith_blind (postWith_of_post hp.1 hp.2),r1,r2,r3,r4⟩
end
end
end cS
namespace cS
open Go Go.Conc Go.ConcM Go.ConcN
section
def CB{info:TypeId->Option TypeInfo}{d:TypeDesc}{i:TypeInfo}{n:String}(h:Made.reckon info d=some i)(u:TypeId):i.desc≠ .named n u:=by
 unfold Made.reckon at h;cases d with
 |pointer e=>
  obtain⟨j,_,h⟩:=aO.1 h;split at h
  .cases h
  .split at h
   .cases h
   .obtain⟨x,_,h⟩:=aO.1 h;cases h;intro e;cases e
  .obtain⟨x,_,h⟩:=aO.1 h;cases h;intro e;cases e
 |slice e=>
  obtain⟨j,_,h⟩:=aO.1 h;obtain⟨x,_,h⟩:=aO.1 h;cases h;intro e;cases e
 |map k e=>
  obtain⟨j,_,h⟩:=aO.1 h;obtain⟨x,_,h⟩:=aO.1 h;obtain⟨j',_,h⟩:=aO.1 h;obtain⟨x',_,h⟩:=aO.1 h;cases h;intro e;cases e
 |chan dir e=>
  obtain⟨j,_,h⟩:=aO.1 h;obtain⟨x,_,h⟩:=aO.1 h;cases h;intro e;cases e
 |func ps rs vr=>
  obtain⟨x,_,h⟩:=aO.1 h;cases h;intro e;cases e
 |array n e=>
  obtain⟨j,hj,h⟩:=aO.1 h;obtain⟨x,_,h⟩:=aO.1 h;cases h;intro e;cases e
 |struct fs=>
  have h:Made.reckonStruct info fs=some i:=h;unfold Made.reckonStruct at h;simp only[<-Array.forIn_toList]at h;obtain⟨s,_,h⟩:=aO.1 h
  have fin:∀j:TypeInfo,some j=some i->j.desc=.struct s.1->i.desc≠ .named n u:=by intro j e hj;cases e;rw[hj];intro e;cases e
  split at h<;>exact fin _ h rfl
 |_=>cases h
def CE{T:Tables}{n:String}(hT:∀(t:TypeId)i,T.types[t]?=some i->∀u,i.desc≠ .named n u):∀(k:Nat)(t:TypeId)(i:TypeInfo),Made.infoAt T k t=some i->∀u,i.desc≠ .named n u
 |0,t,i,h=>by cases h
 |k+1,t,i,h=>by
  unfold Made.infoAt at h;split at h
  .exact hT t i h
  .obtain⟨d,_,h⟩:=aO.1 h;exact CB h
def FZ{T:Tables}{n:String}(h:T.types.all (λi=>match i.desc with | .named m _=>m !=n|_=>true)=true)(t:TypeId)(i:TypeInfo)(hi:T.info? t=some i):∀u,i.desc≠ .named n u:=by
 have hT:∀(t:TypeId)i,T.types[t]?=some i->∀u,i.desc≠ .named n u:= λt i ht u e=>by have h1:=aU.1 h i (aZ ht);rw[e]at h1;simp at h1
 unfold Tables.info? at hi;split at hi
 .exact hT t i hi
 .exact CE hT _ t i hi
structure Part where
 b:Nat
 o:Nat
 c:Array Value
 h:Bool
def F4(L:List Part)(b:Nat):Bool:=decide (1<=b)&&((L[b-1]?).map (·.h)).getD false
def Mw{L:List Part}{b:Nat}(h:F4 L b=true):decide (1<=b∧b<=L.length)=true:=by
 unfold F4 at h;rw[bB]at h;cases hx:L[b-1]? with
 |none=>rw[hx]at h;cases h.2
 |some x=>
  have :=(aY.1 hx).1;have h1:=of_decide_eq_true h.1;exact decide_eq_true (by omega)
@[reducible] def zi (L:List Part) (bad:TypeId):Sh:=
  ⟨λb=>decide (1<=b∧b<=L.length), λb=>if 1<=b∧b<=L.length then((L[b-1]?).map (·.o)).getD 0 else 0,bad, λb h=>aa (of_decide_eq_false h),F4 L, λ_ h=>Mw h⟩
def fL(L:List Part)(b:Nat):Nat:=if 1<=b∧b<=L.length then((L[b-1]?).map (·.b)).getD 0 else b
def aL(L:List Part)(b:Nat):Bool:=decide (1<=b)&&!F4 L b
def oL(bad:TypeId)(x:Part):Obj:=.cells x.c bad (0,x.c.size)
def wL(L:List Part)(bad:TypeId)(W:World):World:={ W with heap:=(Obj.cells #[] 0 (0,0)::L.map (oL bad)).toArray }
def af1(L:List Part)(bad:TypeId)(W:World):Oc:=⟨wL L bad W,W,fL L, λb=>b<W.heap.size, λb=>b<W.heap.size,aL L⟩
structure U9(L:List Part)(bad:TypeId)(W:World)(x:Part):Prop where
 pos:1<=x.b
 lt:x.b<W.heap.size
 cells:∃C e fr,W.heap[x.b]?=some (.cells C e fr)∧∀(i:Nat)v,x.c[i]?=some v->C[i+x.o]?=some (letI:=zi L bad;rv (fL L) v)
 ok:∀v∈x.c,∀(S V:FuncId->Bool)(cd:Code->Bool),letI:=zi L bad;vs (FA S V cd (Bd (aL L) (L.length+1))) v=true
section
variable {P Q:Program} {S V:FuncId->Bool} {cd:Code->Bool} {L:List Part} {bad:TypeId} {W:World} {q:FuncId} {v0:Value}
def sQ:(wL L bad W).heap.size=L.length+1:=by simp[wL]
def Rb{b:Nat}{o:Obj}(hb:1<=b)(h:(wL L bad W).heap[b]?=some o):∃x,L[b-1]?=some x∧o=oL bad x:=by
 obtain⟨k,rfl⟩:∃k,b=k+1:=⟨b-1,by omega⟩;simp only[wL,List.getElem?_toArray,List.getElem?_cons_succ,List.getElem?_map]at h;cases hk:L[k]? with
 |none=>rw[hk]at h;cases h
 |some x=>rw[hk]at h;exact⟨x,by simpa using hk,(aT h).symm⟩
def Mx{b:Nat}{x:Part}(hb:1<=b)(h:L[b-1]?=some x):fL L b=x.b:=by have :=(aY.1 h).1;unfold fL;rw[aj ⟨hb,by omega⟩,h];rfl
def F5:fL L 0=0:=by unfold fL;rw[aa (by omega)]
def zM{b:Nat}{x:Part}(hb:1<=b)(h:L[b-1]?=some x):(zi L bad).sh b=x.o∧(zi L bad).lk b=true∧F4 L b=x.h:=by
 have :=(aY.1 h).1;have h2:1<=b∧b<=L.length:=⟨hb,by omega⟩;refine⟨?_,decide_eq_true h2,?_⟩
 .show(if _ then _ else _)=_;rw[aj h2,h];rfl
 .unfold F4;rw[h];simp[hb]
def xe{b:Nat}:aL L b=true↔1<=b∧F4 L b=false:=by unfold aL;simp
def Rc(hQ:Alike P Q)(hv0:∀f,letI:=zi L bad;rv f v0=v0)(hvs:letI:=zi L bad; ∀F,vs F v0=true)(hq:∀g,S g=true->Q.funcs[g]?≠P.funcs[g]?->g=q∧V g=false)(hpl:Plain P q v0)(hfl:Flat Q q v0)
 (good:∀A:Nat->Bool,letI:=zi L bad;kL P (FA S V cd A)) (gD:iA P=true) (hg0:P.globals.size=0) (an9:Q.globals.size=0) (hbad:P.info? bad=none) (hcc:∀t i,P.info? t=some i->∀u,i.desc≠ .named "sync.copyChecker" u)
 (hmain:∀g,S g=true->Q.inits.idxOf? g=none) {g:FuncId} (hg:S g=true) (XI:Q.funcs[g]?=P.funcs[g]?)
 (hW:0<W.heap.size) (hL:∀x∈L,x.h=false->U9 L bad W x) {args args':Array Value} (ha:letI:=zi L bad;VS (FA S V cd (Bd (aL L) (L.length+1))) args) (XJ:letI:=zi L bad;args'=args.map (rv (fL L)))
 (kS:∀τ,Calls P g args ((wL L bad W).tp τ) λe _=>e=.returned (.bool true)) {Post:Value->World->Prop}
 (hpost:∀W',W'.tape=W.tape->W'.output=W.output->OsLater W.os W'.os->W.heap.size<=W'.heap.size->(∀b,b<W.heap.size->W'.heap[b]?=W.heap[b]?)->Post (.bool true) W'):
 iF Q Post (λ_=>False) (λb=>b<W.heap.size) (G (Frame.enter Q g args' .normal) []) W:=by
 letI:=zi L bad
 have hget:∀b,1<=b->b<(wL L bad W).heap.size->∃x,L[b-1]?=some x∧x∈L:= λb h1 h2=>by
  rw[sQ]at h2;have h3:b-1<L.length:=by omega
  exact⟨_,aN h3,aX h3⟩
 have hlt:∀b,b<(wL L bad W).heap.size->Sh.hol b=false->fL L b<W.heap.size:= λb hb hh=>by
  rcases Nat.eq_zero_or_pos b with rfl|h
  .rw[F5];exact hW
  .obtain⟨x,hx,hm⟩:=hget b h hb;rw[Mx h hx];exact(hL x hm ((zM (bad:=bad) h hx).2.2.symm.trans hh)).lt
 have ao0:∀a,a<(wL L bad W).heap.size->Sh.lk a=false->a=0:= λa ha h=>by
  rcases Nat.eq_zero_or_pos a with rfl|h1
  .rfl
  .obtain⟨x,hx,_⟩:=hget a h1 ha;rw[(zM (bad:=bad) h1 hx).2.1]at h;cases h
 have G0:Ground P S V cd Z0 (af1 L bad W):=by
  refine⟨good,gD,?_, λb hb=>?_,hlt, λa b ha hb hla OS hab=>?_, λb hb=>?_, λb h=>hbad, λb h=>hcc, λb h=>?_, λb hb ZQ=>.inl (hlt b hb (xe.1 ZQ).2), λb hb=>?_, λb hb=>⟨hb, λh=>h, λh=>h⟩, λb h=>h.elim, λb h=>h.elim, λb i h=>h.elim, λb hb=>⟨hb,.inr hb⟩, λh=>h, λb hb=>(xe.1 hb).2⟩
  .show _<(wL L bad W).heap.size;rw[hg0,sQ];omega
  .rw[hg0]at hb;obtain rfl:b=0:=by omega
   exact F5 (L:=L)
  .obtain rfl:=ao0 a ha hla;have hab:fL L 0=fL L b:=hab;rw[F5]at hab;rcases Nat.eq_zero_or_pos b with rfl|h
   .rfl
   .obtain⟨x,hx,hm⟩:=hget b h hb;rw[Mx h hx]at hab;have :=(hL x hm ((zM (bad:=bad) h hx).2.2.symm.trans OS)).pos;omega
  .rw[hg0]at hb;exact decide_eq_false (by omega)
  .have h:decide (1<=b∧b<=L.length)=true:=h;have :=of_decide_eq_true h;show b<(wL L bad W).heap.size;rw[sQ];omega
  .have hb:(wL L bad W).heap.size<=b:=hb;rw[sQ]at hb;refine xe.2 ⟨by omega,?_⟩;cases hx:F4 L b with
   |false=>rfl
   |true=>have :=of_decide_eq_true (Mw hx);omega
 refine Ra (D:=af1 L bad W) (R:= λv _=>v=.bool true) hQ hv0 hvs hq hpl hfl (λb h=>h) (by rw[an9];exact hW) G0 hmain hg XI (args:=args) ?_ XJ ⟨λb hb hA=>hlt b hb (xe.1 (gH.1 hA).1).2, λb o hb ho=>?_⟩ (λb o ZQ ho hnl=>?_) (λτ cs=>?_) (λv w' f' dD W' hv hb=>?_) _
 .show VS (FA S V cd (Bd (aL L) (wL L bad W).heap.size)) args;rw[sQ];exact ha
 .obtain⟨hb1,hb2⟩:=xe.1 (gH.1 hb).1;obtain⟨x,hx,rfl⟩:=Rb hb1 ho;obtain⟨s1,s2,s3⟩:=zM (bad:=bad) hb1 hx;have hl:=hL x (List.mem_of_getElem? hx) (s3.symm.trans hb2);obtain⟨C,e,fr,h1,h2⟩:=hl.cells;refine .inr (.inr ⟨s2,x.c,(0,x.c.size),C,e,fr,rfl, λv hv=>?_, λi hi=>⟨bg _,hi⟩,?_, λi v hv=>?_⟩)
  .show vs (FA S V cd (Bd (aL L) (wL L bad W).heap.size)) v=true;rw[sQ];exact hl.ok v hv S V cd
  .show W.heap[fL L b]?=_
   rw[Mx hb1 hx];exact h1
  .show C[i+(zi L bad).sh b]?=some (rv (fL L) v)
   rw[s1];exact h2 i v hv
 .obtain⟨x,hx,rfl⟩:=Rb (xe.1 ZQ).1 ho;exact absurd ⟨_,_,_,rfl, λi hi=>⟨bg _,hi⟩⟩ hnl
 .obtain⟨e,w',fr,hR,h1,h2,h3⟩:=kS τ cs;exact⟨e,w',fr,⟨_,hR,rfl⟩,h1,h2,h3⟩
 .subst hv;rw[jZ];exact hpost W' hb.since.tape hb.since.out hb.since.os hb.since.size hb.kept
def qy(k:Nat)(A:Option Addr):Option Addr:=A.map λa=>⟨k,0,a.spot⟩
def PartOf(x:Part)(A:Option Addr)(cap:Nat)(cs:List Value):Prop:=∀a,A=some a->x.b=a.block∧x.o=a.off∧((x.h=false∧a.spot=none∧x.c=cs.toArray)∨(x.h=true∧cap=0))
def rM{k cap:Nat}{A:Option Addr}{cs:List Value}{x:Part}(h:PartOf x A cap cs)(hk:L[k]?=some x):letI:=zi L bad;(qy (k+1) A).map (ra (fL L))=A:=by
 letI:=zi L bad;cases A with
 |none=>rfl
 |some a=>
  obtain⟨hb,ho,_⟩:=h a rfl;have h1:fL L (k+1)=x.b:=Mx (b:=k+1) (by omega) (by simpa using hk);have h2:Sh.sh (k+1)=x.o:=(zM (bad:=bad) (b:=k+1) (by omega) (by simpa using hk)).1;show some (ra (fL L) ⟨k+1,0,a.spot⟩)=_;unfold ra;rw[h1,h2,hb,ho,Nat.zero_add]
def rO{k l cap:Nat}{A:Option Addr}{cs:List Value}{x:Part}(h:PartOf x A cap cs)(hk:L[k]?=some x)(hl:l<=cap):letI:=zi L bad;vs (FA S V cd (Bd (aL L) (L.length+1))) (.slice (qy (k+1) A) l cap)=true:=by
 letI:Sh:=zi L bad;rw[gY];cases A with
 |none=>rfl
 |some a=>
  have h3:F4 L (k+1)=x.h:=(zM (bad:=bad) (b:=k+1) (by omega) (by simpa using hk)).2.2;have hlt:=(aY.1 hk).1;rcases(h a rfl).2.2 with⟨h1,_⟩|⟨h1,rfl⟩
  .exact qH (gH.2 ⟨xe.2 ⟨by show 1<=k+1;omega,h3.trans h1⟩,by show k+1<_;omega⟩)
  .obtain rfl:l=0:=by omega
   show JG _ (some (⟨k+1,0,a.spot⟩:Addr)) 0 0=true;have h4:Sh.hol (k+1)=true:=h3.trans h1;unfold JG;simp[h4]
def Va{k:Nat}{x:Part}(hk:L[k]?=some x)(τ:Nat->Question->Nat)(i:Nat):((wL L bad W).tp τ).cell? ⟨k+1,i,none⟩=x.c[i]?:=by
 have h:((wL L bad W).tp τ).heap[k+1]?=some (oL bad x):=by
  show(wL L bad W).heap[k+1]?=_
  simp only[wL,List.getElem?_toArray,List.getElem?_cons_succ,List.getElem?_map,hk,ay]
 unfold World.cell?;simp only[h,oL];cases x.c[i]?<;>rfl
def partOf(A:Option Addr)(cap:Nat)(cs:List Value):Part:=
 match A with
 |none=>⟨0,0,#[],true⟩
 |some a=>if cap=0 then⟨a.block,a.off,#[],true⟩else⟨a.block,a.off,cs.toArray,false⟩
structure F6(W:World)(A:Option Addr)(len cap:Nat)(f:Value->Value)(cs:List Value):Prop where
 le:len<=cap
 nil:A=none->len=0∧cap=0
 at_:∀a,A=some a->0<cap->a.spot=none∧1<=a.block∧a.block<W.heap.size∧(∃C e fr,W.heap[a.block]?=some (.cells C e fr))∧∀(i:Nat)v,cs[i]?=some v->W.cell? ⟨a.block,a.off+i,none⟩=some (f v)
def F6.part{A:Option Addr}{len cap:Nat}{f:Value->Value}{cs:List Value}(h:F6 W A len cap f cs):PartOf (partOf A cap cs) A cap cs:= λa ha=>by
 subst ha
 by_cases h0:cap=0
 .simp[partOf,h0]
 .obtain⟨h1,_⟩:=h.at_ a rfl (by omega);simp[partOf,h0,h1]
def F6.lies{A:Option Addr}{len cap:Nat}{cs:List Value}(h:letI:=zi L bad;F6 W A len cap (rv (fL L)) cs)(hv:∀v∈cs,∀(S V:FuncId->Bool)(cd:Code->Bool),letI:=zi L bad;vs (FA S V cd (Bd (aL L) (L.length+1))) v=true)(hh:(partOf A cap cs).h=false):U9 L bad W (partOf A cap cs):=by
 cases A with
 |none=>cases hh
 |some a=>
  by_cases h0:cap=0
  .simp[partOf,h0]at hh
  .obtain⟨h1,h2,h3,⟨C,e,fr,h4⟩,h5⟩:=h.at_ a rfl (by omega);have e1:partOf (some a) cap cs=⟨a.block,a.off,cs.toArray,false⟩:=by simp[partOf,h0]
   rw[e1];refine⟨h2,h3,⟨C,e,fr,h4, λi v hv=>?_⟩, λv hv'=>hv v (by simpa using hv')⟩;have h6:=h5 i v (by simpa using hv);unfold World.cell? at h6;simp only[h4]at h6;rw[Nat.add_comm];cases hC:C[a.off+i]? with
   |none=>rw[hC]at h6;cases h6
   |some u=>rw[hC]at h6;exact h6
def rP{cs:List Value}(h:∀v∈cs,eF v=true):letI:=zi L bad;(∀v∈cs,rv (fL L) v=v)∧∀v∈cs,∀(S V:FuncId->Bool)(cd:Code->Bool),vs (FA S V cd (Bd (aL L) (L.length+1))) v=true:=by letI:=zi L bad;exact⟨λv hv=>(iP (F:=⟨λ_=>false, λ_=>false, λ_=>false, λ_=>false⟩) (f:=fL L) (h v hv)).1, λv hv S V cd=>(iP (f:=fL L) (h v hv)).2⟩
end
end
end cS
namespace cS
open Go Go.ChangeShapes Go.WideShapes Go.ChangeAt Go.RowKit Go.Deep Go.Conc Go.ConcM
section
section
variable {H:Type} {enc:TypeId×Value->H} {P:Program} {W:World}
structure yD(W:World)(A:Option Addr)(len cap k:Nat)(R:Nat->Value->Prop):Prop where
 le:len<=cap
 nil:A=none->len=0∧cap=0
 at_:∀a,A=some a->0<cap->a.spot=none∧(∃C e fr,W.heap[a.block]?=some (.cells C e fr))∧∀i j,i<cap->j<k->∃v,W.cell? ⟨a.block,a.off+(i*k+j),none⟩=some v∧R j v
def jm(enc:TypeId×Value->H)(P:Program)(W:World)(e:TypeId)(k:Nat)(R:Nat->Value->Prop):Prop:=
 ∀(n:Nat)(cs:List Value)(x:DataW H×List MemPlace),DataW.trod enc P W 0 (λ_=>true) true n e cs=some x->∀j,j<k->∃v,cs[j]?=some v∧R j v
def cell_spot{a:Addr}{v:Value}(h:W.cell? a=some v):a.spot=none∧∃C e fr,W.heap[a.block]?=some (.cells C e fr):=by
 unfold World.cell? at h;cases hb:W.heap[a.block]? with
 |none=>rw[hb]at h;cases h
 |some o=>
  rw[hb]at h;cases o with
  |cells c e fr=>
   dsimp only at h
   by_cases hs:a.spot.isSome=true
   .rw[aj hs]at h;cases h
   .exact⟨by simpa using hs,c,e,fr,rfl⟩
  |_=>cases h
def Vb{t e:TypeId}{k:Nat}{R:Nat->Value->Prop}(ht:P.underlying t=some (.slice e))(hk:P.cellsOf e=k)(h0:0<k)(hE:jm enc P W e k R){fuel:Nat}{cs:List Value}{x:DataW H×List MemPlace}(h:DataW.trod enc P W 0 (λ_=>true) true fuel t cs=some x):
 ∃(A:Option Addr)(len cap:Nat),cs= [.slice A len cap]∧yD W A len cap k R:=by
 rcases open_slice ht h with⟨hcs,_⟩|⟨a,len,cap,m,n,D,Pl,hcs,_,hl,_,hm,_,hi⟩
 .exact⟨none,0,0,hcs,aJ _, λ_=>⟨rfl,rfl⟩, λa h=>by cases h⟩
 .refine⟨some a,len,cap,hcs,hl,(λh=>by cases h), λa' h hc=>?_⟩;cases h
  have cell:∀i j,i<cap->j<k->∃v,W.cell? (a.add (i*k+j))=some v∧R j v:= λi j h1 h2=>by
   obtain⟨cs',hc,htr⟩:=hi i (by rw[hm,aj rfl];exact h1);rw[hk]at hc;obtain⟨_,_,hat⟩:=World.cells?_some hc;obtain⟨v,hv,hR⟩:=hE n cs' _ htr j h2;refine⟨v,?_,hR⟩;have h3:=(hat j h2).trans hv
   rwa [Go.Deep.add_add]at h3
  obtain⟨v0,hv0,_⟩:=cell 0 0 hc h0;have e0:a.add (0*k+0)=a:=by rw[Nat.zero_mul];unfold Addr.add;rw[aj rfl]
  rw[e0]at hv0;obtain⟨hsp,hb⟩:=cell_spot hv0;refine⟨hsp,hb, λi j h1 h2=>?_⟩;obtain⟨v,hv,hR⟩:=cell i j h1 h2;refine⟨v,?_,hR⟩
  have e:a.add (i*k+j)=⟨a.block,a.off+(i*k+j),none⟩:=by
   unfold Addr.add;split
   .rename_i h0;rw[h0,aH];cases a;simp only at hsp;rw[hsp]
   .rfl
  rwa [e]at hv
def Au(v:Value):Prop:=∃m:Int,v=.int .i64 m
def WM(v:Value):Prop:=∃s:ByteArray,v=.string s
def xg(W:World)(k:Nat)(R:Nat->Value->Prop)(v:Value):Prop:=∃A len cap,v=.slice A len cap∧yD W A len cap k R
def II{e:TypeId}(he:P.underlying e=some (.int .i64)):jm enc P W e 1 λ_=>Au:= λn cs x h j hj=>by
 obtain⟨m,rfl,_⟩:=DataW.trod_int he h;obtain rfl:j=0:=by omega
 exact⟨_,rfl,m,rfl⟩
def IsK(k:IntKind)(v:Value):Prop:=∃m:Int,v=.int k m∧(Lit.int k m).wf=true
def Ym{e:TypeId}{k:IntKind}(he:P.underlying e=some (.int k)):jm enc P W e 1 λ_=>IsK k:= λn cs x h j hj=>by
 obtain⟨m,rfl,_,hw⟩:=DataW.trod_int he h;obtain rfl:j=0:=by omega
 exact⟨_,rfl,m,rfl,hw⟩
def Re{e:TypeId}(he:P.underlying e=some .string):jm enc P W e 1 λ_=>WM:= λn cs x h j hj=>by
 obtain⟨s,rfl,_⟩:=DataW.trod_string he h;obtain rfl:j=0:=by omega
 exact⟨_,rfl,s,rfl⟩
def Bt{t e:TypeId}{k:Nat}{R:Nat->Value->Prop}(ht:P.underlying t=some (.slice e))(hk:P.cellsOf e=k)(h0:0<k)(hE:jm enc P W e k R):jm enc P W t 1 λ_=>xg W k R:= λn cs x h j hj=>by
 obtain⟨A,len,cap,rfl,hs⟩:=Vb ht hk h0 hE h;obtain rfl:j=0:=by omega
 exact⟨_,rfl,A,len,cap,rfl,hs⟩
def qz{e:TypeId}{k:Nat}{fs:Array Field}{R:Nat->Value->Prop}(he:P.underlying e=some (.struct fs))
 (hf:∀j,j<k->∃(i:Nat)(f:Field)(R':Nat->Value->Prop),fs[i]?=some f∧f.offset<=j∧j<f.offset+P.cellsOf f.type∧jm enc P W f.type (P.cellsOf f.type) R'∧∀v,R' (j-f.offset) v->R j v):jm enc P W e k R:= λn cs x h j hj=>by
 obtain⟨xs,n',_,_,hlen,hxl,hat⟩:=DataW.trod_struct he h;obtain⟨i,f,R',hi,h1,h2,hE,hR⟩:=hf j hj;have hil:i<xs.length:=by rw[hxl];exact(aI.1 hi).1
 obtain⟨v,hv,hr⟩:=hE n' _ _ ((hat i f hi).trans (aN hil)) (j-f.offset) (by omega);refine⟨v,?_,hR v hr⟩;rw[List.getElem?_take,aj (by omega),List.getElem?_drop]at hv
 rwa [show f.offset+(j-f.offset)=j by omega]at hv
def OD:Value->Bool
 | .int .i64 _| .int .u16 _| .string _| .slice .. =>false
 |_=>true
def OE(o:Obj):Bool:=match o with | .cells c _ _=>c.all OD|_=>true
def yD.tab{A:Option Addr}{len cap k:Nat}{R:Nat->Value->Prop}(h:yD W A len cap k R):∃D:Nat->Nat->Value,(∀i j,i<len->j<k->R j (D i j))∧∀a,A=some a->∀i j,i<len->j<k->W.cell? ⟨a.block,a.off+(i*k+j),none⟩=some (D i j):=by
 cases A with
 |none=>exact⟨λ_ _=>undef, λi j hi=>absurd hi (by have :=h.nil rfl;omega), λa h=>by cases h⟩
 |some a=>
  have hc:∀q:Nat×Nat,∃v,q.1<len->q.2<k->W.cell? ⟨a.block,a.off+(q.1*k+q.2),none⟩=some v∧R q.2 v:= λ⟨i,j⟩=>by
   by_cases h1:i<len∧j<k
   .obtain⟨_,_,hx⟩:=h.at_ a rfl (by have :=h.le;omega);obtain⟨v,hv,hR⟩:=hx i j (by have :=h.le;omega) h1.2;exact⟨v, λ_ _=>⟨hv,hR⟩⟩
   .exact⟨undef, λa b=>absurd ⟨a,b⟩ h1⟩
  obtain⟨D,hD⟩:=Classical.axiomOfChoice hc;refine⟨λi j=>D (i,j), λi j hi hj=>(hD (i,j) hi hj).2, λa' ha i j hi hj=>?_⟩;cases ha;exact(hD (i,j) hi hj).1
def nS(n k:Nat)(F:Nat->Nat->Value):List Value:=(List.range (n*k)).map λq=>F (q/ k) (q%k)
def CF{n k i j:Nat}{F:Nat->Nat->Value}(hi:i<n)(hj:j<k):(nS n k F)[i*k+j]?=some (F i j):=by
 have h1:i*k+j<n*k:=by have :=Nat.mul_le_mul_right k (show i+1<=n from hi);rw[Nat.succ_mul]at this;omega
 have h2:(i*k+j)/ k=i:=by rw[Nat.add_comm,Nat.add_mul_div_right _ _ (by omega),Nat.div_eq_of_lt hj,Nat.zero_add]
 have h3:(i*k+j)%k=j:=by rw[Nat.add_comm,Nat.add_mul_mod_self_right,Nat.mod_eq_of_lt hj]
 simp only[nS,List.getElem?_map,List.getElem?_range h1,ay,h2,h3]
def MB{n k q:Nat}{F:Nat->Nat->Value}{v:Value}(h:(nS n k F)[q]?=some v):∃i j,i<n∧j<k∧q=i*k+j∧v=F i j:=by
 have hq:q<n*k:=by have :=(aY.1 h).1;simpa[nS]using this
 have hk:0<k:=Nat.pos_of_ne_zero λh=>by rw[h]at hq;simp at hq
 have h1:q/ k<n:=Nat.div_lt_of_lt_mul (by rwa [Nat.mul_comm]);have h2:=Nat.mod_lt q hk;have h3:q=q/ k*k+q%k:=by have :=Nat.div_add_mod q k;rw[Nat.mul_comm]at this;omega
 refine⟨q/ k,q%k,h1,h2,h3,?_⟩;rw[h3,CF h1 h2]at h;exact(aT h).symm
def IJ{n k:Nat}{F:Nat->Nat->Value}{v:Value}(h:v∈nS n k F):∃i j,i<n∧j<k∧v=F i j:=by obtain⟨q,hq⟩:=List.mem_iff_getElem?.1 h;obtain⟨i,j,h1,h2,_,h3⟩:=MB hq;exact⟨i,j,h1,h2,h3⟩
def yD.qr{A:Option Addr}{len cap k:Nat}{R:Nat->Value->Prop}{D F:Nat->Nat->Value}{f:Value->Value}(h:yD W A len cap k R)(h0:0<k)(hne:∀a,A=some a->0<cap->1<=a.block)
 (hD:∀a,A=some a->∀i j,i<len->j<k->W.cell? ⟨a.block,a.off+(i*k+j),none⟩=some (D i j)) (hF:∀i j,i<len->j<k->f (F i j)=D i j):F6 W A len cap f (nS len k F):=by
 refine⟨h.le,h.nil, λa ha hc=>?_⟩;obtain⟨h1,h2,h3⟩:=h.at_ a ha hc;obtain⟨C,e,fr,h4⟩:=h2;refine⟨h1,hne a ha hc,(aI.1 h4).1,⟨C,e,fr,h4⟩, λq v hv=>?_⟩;obtain⟨i,j,hi,hj,rfl,rfl⟩:=MB hv;rw[hD a ha i j hi hj,hF i j hi hj]
def yD.pos{A:Option Addr}{len cap k:Nat}{R:Nat->Value->Prop}(h:yD W A len cap k R)(h0:0<k)(hR:∀v,R 0 v->OD v=false){o:Obj}(ho:W.heap[0]?=some o)(hodd:OE o=true)(a:Addr)(ha:A=some a)(hc:0<cap):1<=a.block:=by
 obtain⟨h1,_,h3⟩:=h.at_ a ha hc;obtain⟨v,hv,hr⟩:=h3 0 0 hc h0;rcases Nat.eq_zero_or_pos a.block with e|e
 .exfalso;rw[e]at hv;unfold World.cell? at hv;rw[ho]at hv;cases o with
  |cells c t fr=>
   simp only[Option.isSome_none,bC,if_false]at hv;have :=aU.1 hodd v (aZ hv);rw[hR v hr]at this;cases this
  |_=>cases hv
 .exact e
def yD.flat{A:Option Addr}{len cap k:Nat}{R:Nat->Value->Prop}(h:yD W A len cap k R)(h0:0<k)(hR:∀j v,R j v->eF v=true∧OD v=false){o:Obj}(ho:W.heap[0]?=some o)(hodd:OE o=true):
 ∃D:Nat->Nat->Value,(∀i j,i<len->j<k->R j (D i j))∧(∀v∈nS len k D,eF v=true)∧∀(L:List Part)(bad:TypeId),F6 W A len cap (letI:=zi L bad;rv (fL L)) (nS len k D):=by
 obtain⟨D,h1,h2⟩:=h.tab
 have hp:∀v∈nS len k D,eF v=true:= λv hv=>by obtain⟨i,j,hi,hj,rfl⟩:=IJ hv;exact(hR j _ (h1 i j hi hj)).1
 refine⟨D,h1,hp, λL bad=>?_⟩;letI:=zi L bad;refine h.qr h0 (h.pos h0 (λv hv=>(hR 0 v hv).2) ho hodd) h2 λi j hi hj=>?_
 exact(rP (L:=L) (bad:=bad) hp).1 _ (List.mem_of_getElem? (CF hi hj))
end
end
end cS
