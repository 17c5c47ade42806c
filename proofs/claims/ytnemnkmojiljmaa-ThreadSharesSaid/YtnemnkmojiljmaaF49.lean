/- Part 49. -/
import Derived.ProofKit
import Derived.Carry
import Derived.Deep.Slices
import Derived.Conc.HoldsTime
import Derived.Test.YtnemnkmojiljmaaF16
import Derived.Test.YtnemnkmojiljmaaF46
set_option maxRecDepth 100000
set_option maxHeartbeats 8000000
set_option linter.all false
section
namespace Par
open Go Go.Conc Go.ConcM Go.ConcN
theorem FK {info:TypeId->Option TypeInfo} {d:TypeDesc} {i:TypeInfo} {n:String} (h:Made.reckon info d=some i) (u:TypeId):i.desc≠ .named n u:=by
 unfold Made.reckon at h;cases d with
 |pointer e=>
  obtain ⟨j,_,h⟩:=ay.1 h;split at h
  ·cases h
  ·split at h
   ·cases h
   ·obtain ⟨x,_,h⟩:=ay.1 h;cases h;intro e;cases e
  ·obtain ⟨x,_,h⟩:=ay.1 h;cases h;intro e;cases e
 |slice e=>
  obtain ⟨j,_,h⟩:=ay.1 h;obtain ⟨x,_,h⟩:=ay.1 h;cases h;intro e;cases e
 |map k e=>
  obtain ⟨j,_,h⟩:=ay.1 h;obtain ⟨x,_,h⟩:=ay.1 h;obtain ⟨j',_,h⟩:=ay.1 h;obtain ⟨x',_,h⟩:=ay.1 h;cases h;intro e;cases e
 |chan dir e=>
  obtain ⟨j,_,h⟩:=ay.1 h;obtain ⟨x,_,h⟩:=ay.1 h;cases h;intro e;cases e
 |func ps rs vr=>
  obtain ⟨x,_,h⟩:=ay.1 h;cases h;intro e;cases e
 |array n e=>
  obtain ⟨j,hj,h⟩:=ay.1 h;obtain ⟨x,_,h⟩:=ay.1 h;cases h;intro e;cases e
 |struct fs=>
  have h:Made.reckonStruct info fs=some i:=h;unfold Made.reckonStruct at h;simp only [<-Array.forIn_toList] at h;obtain ⟨s,_,h⟩:=ay.1 h
  have fin:∀j:TypeInfo,some j=some i->j.desc= .struct s.1->i.desc≠ .named n u:=by
   intro j e hj;cases e;rw [hj];intro e;cases e
  split at h<;>exact fin _ h rfl
 |_=>cases h
theorem FL {T:Tables} {n:String} (hT:∀(t:TypeId) i,T.types[t]?=some i->∀u,i.desc≠ .named n u):∀(k:Nat) (t:TypeId) (i:TypeInfo),Made.infoAt T k t=some i->∀u,i.desc≠ .named n u
 |0,t,i,h=>by cases h
 |k+1,t,i,h=>by
  unfold Made.infoAt at h;split at h
  ·exact hT t i h
  ·obtain ⟨d,_,h⟩:=ay.1 h;exact FK h
theorem Jf {T:Tables} {n:String} (h:T.types.all (λi=>match i.desc with | .named m _=>m !=n|_=>true)=true) (t:TypeId) (i:TypeInfo) (hi:T.info? t=some i):∀u,i.desc≠ .named n u:=by
 have hT:∀(t:TypeId) i,T.types[t]?=some i->∀u,i.desc≠ .named n u:= λt i ht u e=>by
  have h1:=aF.1 h i (aK ht);rw [e] at h1;simp at h1
 unfold Tables.info? at hi;split at hi
 ·exact hT t i hi
 ·exact FL hT _ t i hi
abbrev Part:=Nat×Nat×Array Value
@[reducible] def Vj (L:List Part) (bad:TypeId):Sh:=
  ⟨λb=>decide (1<=b∧b<=L.length), λb=>if 1<=b∧b<=L.length then ((L[b - 1]?).map (·.2.1)).getD 0 else 0,bad, λb h=>if_neg (of_decide_eq_false h)⟩
def fL (L:List Part) (b:Nat):Nat:=if 1<=b∧b<=L.length then ((L[b - 1]?).map (·.1)).getD 0 else b
def oL (bad:TypeId) (x:Part):Obj:=.cells x.2.2 bad (0,x.2.2.size)
def wL (L:List Part) (bad:TypeId) (W:World):World:={ W with heap:=(Obj.cells #[] 0 (0,0)::L.map (oL bad)).toArray }
def an2 (L:List Part) (bad:TypeId) (W:World):PT:=⟨wL L bad W,W,fL L, λb=>b<W.heap.size, λb=>b<W.heap.size, λb=>decide (1<=b)⟩
structure K6 (W:World) (x:Part):Prop where
 pos:1<=x.1
 lt:x.1<W.heap.size
 cells:∃C e fr,W.heap[x.1]?=some (.cells C e fr)∧∀(i:Nat) v,x.2.2[i]?=some v->C[i+x.2.1]?=some v
 plain:∀v∈x.2.2,dJ v=true
section
variable {P Q:Program} {S V:FuncId->Bool} {cd:Code->Bool} {L:List Part} {bad:TypeId} {W:World} {q:FuncId} {v0:Value}
theorem yB:(wL L bad W).heap.size=L.length+1:=by simp [wL]
theorem UX {b:Nat} {o:Obj} (hb:1<=b) (h:(wL L bad W).heap[b]?=some o):∃x,L[b - 1]?=some x∧o=oL bad x:=by
 obtain ⟨k,rfl⟩:∃k,b=k+1:=⟨b - 1,by omega⟩;simp only [wL,List.getElem?_toArray,List.getElem?_cons_succ,List.getElem?_map] at h;cases hk:L[k]? with
 |none=>rw [hk] at h;cases h
 |some x=>rw [hk] at h;exact ⟨x,by simpa using hk,(aD h).symm⟩
theorem OP {b:Nat} {x:Part} (hb:1<=b) (h:L[b - 1]?=some x):fL L b=x.1:=by
 have :=(aJ.1 h).1;unfold fL;rw [if_pos ⟨hb,by omega⟩,h];rfl
theorem Jg:fL L 0=0:=by unfold fL;rw [if_neg (by omega)]
theorem Nr {b:Nat} {x:Part} (hb:1<=b) (h:L[b - 1]?=some x):(Vj L bad).sh b=x.2.1∧(Vj L bad).lk b=true:=by
 have :=(aJ.1 h).1;have h2:1<=b∧b<=L.length:=⟨hb,by omega⟩;refine ⟨?_,decide_eq_true h2⟩;show (if _ then _ else _)=_;rw [if_pos h2,h];rfl
theorem UY (hQ:Alike P Q) (hv0:∀f,letI:=Vj L bad;rv f v0=v0) (hvs:∀F,vs F v0=true) (hq:∀g,S g=true->Q.funcs[g]?≠P.funcs[g]?->g=q∧V g=false) (hpl:Plain P q v0) (hfl:Flat Q q v0)
 (good:∀A:Nat->Bool,letI:=Vj L bad;lY P (FA S V cd A)) (zeros:iF P=true) (hg0:P.globals.size=0) (au0:Q.globals.size=0) (hbad:P.info? bad=none) (hcc:∀t i,P.info? t=some i->∀u,i.desc≠ .named "sync.copyChecker" u)
 (hmain:∀g,S g=true->Q.inits.idxOf? g=none) {g:FuncId} (hg:S g=true) (hgQ:Q.funcs[g]?=P.funcs[g]?)
 (hW:0<W.heap.size) (hL:∀x∈L,K6 W x) {args args':Array Value} (ha:VS (FA S V cd λb=>decide (1<=b)&&decide (b<L.length+1)) args) (haa:letI:=Vj L bad;args'=args.map (rv (fL L)))
 (hcon:∀τ,Calls P g args ((wL L bad W).tp τ) λe _=>e= .returned (.bool true)) {Post:Value->World->Prop}
 (hpost:∀W',W'.tape=W.tape->W'.output=W.output->OsLater W.os W'.os->W.heap.size<=W'.heap.size->(∀b,b<W.heap.size->W'.heap[b]?=W.heap[b]?)->Post (.bool true) W'):
 iL Q Post (λ_=>False) (λb=>b<W.heap.size) (G (Frame.enter Q g args' .normal) []) W:=by
 letI:=Vj L bad
 have hget:∀b,1<=b->b<(wL L bad W).heap.size->∃x,L[b - 1]?=some x∧x∈L:= λb h1 h2=>by
  rw [yB] at h2;have h3:b - 1<L.length:=by omega
  exact ⟨_,ax h3,aI h3⟩
 have hlt:∀b,b<(wL L bad W).heap.size->fL L b<W.heap.size:= λb hb=>by
  rcases Nat.eq_zero_or_pos b with rfl|h
  ·rw [Jg];exact hW
  ·obtain ⟨x,hx,hm⟩:=hget b h hb;rw [OP h hx];exact (hL x hm).lt
 have au1:∀a,a<(wL L bad W).heap.size->Sh.lk a=false->a=0:= λa ha h=>by
  rcases Nat.eq_zero_or_pos a with rfl|h1
  ·rfl
  ·obtain ⟨x,hx,_⟩:=hget a h1 ha;rw [(Nr (bad:=bad) h1 hx).2] at h;cases h
 have hA:∀b,decide (1<=b)=true->1<=b:= λb h=>of_decide_eq_true h
 have G0:Ground P S V cd Z0 (an2 L bad W):=by
  refine ⟨good,zeros,?_, λb hb=>?_,hlt, λa b ha hb hla hab=>?_, λb hb=>?_, λb h=>hbad, λb h=>hcc, λb h=>?_, λb hb hAb=>.inl (hlt b hb), λb hb=>?_, λb hb=>⟨hb, λh=>h, λh=>h⟩, λb h=>h.elim, λb h=>h.elim, λb i h=>h.elim, λb hb=>⟨hb,.inr hb⟩, λh=>h⟩
  ·show _<(wL L bad W).heap.size;rw [hg0,yB];omega
  ·rw [hg0] at hb;obtain rfl:b=0:=by omega
   exact Jg (L:=L)
  ·obtain rfl:=au1 a ha hla;have hab:fL L 0=fL L b:=hab;rw [Jg] at hab;rcases Nat.eq_zero_or_pos b with rfl|h
   ·rfl
   ·obtain ⟨x,hx,hm⟩:=hget b h hb;rw [OP h hx] at hab;have :=(hL x hm).pos;omega
  ·rw [hg0] at hb;exact decide_eq_false (by omega)
  ·have h:decide (1<=b∧b<=L.length)=true:=h;have :=of_decide_eq_true h;show b<(wL L bad W).heap.size;rw [yB];omega
  ·have hb:(wL L bad W).heap.size<=b:=hb;rw [yB] at hb;exact decide_eq_true (by omega)
 refine UR (D:=an2 L bad W) (R:= λv _=>v= .bool true) hQ hv0 hvs hq hpl hfl (λb h=>h) (by rw [au0];exact hW) G0 hmain hg hgQ (args:=args) ?_ haa ⟨λb hb _=>hlt b hb, λb o hb ho=>?_⟩ (λb o hAb ho hnl=>?_) (λτ cs=>?_) (λv w' f' own' W' hv hb=>?_) _
 ·show VS (FA S V cd (Bd (λb=>decide (1<=b)) (wL L bad W).heap.size)) args;rw [yB];exact ha
 ·have hb1:=hA b (fB.1 hb).1;obtain ⟨x,hx,rfl⟩:=UX hb1 ho;have hl:=hL x (List.mem_of_getElem? hx);obtain ⟨C,e,fr,h1,h2⟩:=hl.cells;obtain ⟨s1,s2⟩:=Nr (bad:=bad) hb1 hx;refine .inr (.inr ⟨s2,x.2.2,(0,x.2.2.size),C,e,fr,rfl, λv hv=>(jd (f:=fL L) (hl.plain v hv)).2, λi hi=>⟨aL _,hi⟩,?_, λi v hv=>?_⟩)
  ·show W.heap[fL L b]?=_
   rw [OP hb1 hx];exact h1
  ·have hp:=(jd (F:=⟨λ_=>false, λ_=>false, λ_=>false, λ_=>false⟩) (f:=fL L) (hl.plain v (aK hv))).1;show C[i+(Vj L bad).sh b]?=some (rv (fL L) v)
   rw [hp,s1];exact h2 i v hv
 ·obtain ⟨x,hx,rfl⟩:=UX (hA b hAb) ho;exact absurd ⟨_,_,_,rfl, λi hi=>⟨aL _,hi⟩⟩ hnl
 ·obtain ⟨e,w',fr,hR,h1,h2,h3⟩:=hcon τ cs;exact ⟨e,w',fr,⟨_,hR,rfl⟩,h1,h2,h3⟩
 ·subst hv;rw [lC];exact hpost W' hb.since.tape hb.since.out hb.since.os hb.since.size hb.kept
def K7 (k:Nat) (A:Option Addr):Option Addr:=A.map λ_=>⟨k,0,none⟩
def PartOf (x:Part) (A:Option Addr) (cs:List Value):Prop:=∀a,A=some a->a.spot=none∧x=(a.block,a.off,cs.toArray)
theorem K8 {k:Nat} {A:Option Addr} {cs:List Value} {x:Part} (h:PartOf x A cs) (hk:L[k]?=some x):letI:=Vj L bad;(K7 (k+1) A).map (ra (fL L))=A:=by
 letI:=Vj L bad;cases A with
 |none=>rfl
 |some a=>
  obtain ⟨hs,rfl⟩:=h a rfl;have h1:fL L (k+1)=a.block:=OP (b:=k+1) (by omega) (by simpa using hk);have h2:=(Nr (bad:=bad) (b:=k+1) (by omega) (by simpa using hk)).1;show some (ra (fL L) ⟨k+1,0,none⟩)=_;have h3:Sh.sh (k+1)=a.off:=h2;unfold ra;rw [h1,h3];cases a;simp only at hs;simp [hs]
theorem K9 {k:Nat} {A:Option Addr} (hk:k<L.length) (l c:Nat):vs (FA S V cd λb=>decide (1<=b)&&decide (b<L.length+1)) (.slice (K7 (k+1) A) l c)=true:=by
 letI:Sh:=noSh;rw [qM];cases A with
 |none=>rfl
 |some a=>
  show (decide (1<=k+1)&&decide (k+1<L.length+1))=true;simp [hk]
theorem Xk {k:Nat} {x:Part} (hk:L[k]?=some x) (τ:Nat->Question->Nat) (i:Nat):((wL L bad W).tp τ).cell? ⟨k+1,i,none⟩=x.2.2[i]?:=by
 have h:((wL L bad W).tp τ).heap[k+1]?=some (oL bad x):=by
  show (wL L bad W).heap[k+1]?=_
  simp only [wL,List.getElem?_toArray,List.getElem?_cons_succ,List.getElem?_map,hk,Option.map_some]
 unfold World.cell?;simp only [h,oL];cases x.2.2[i]?<;>rfl
theorem OQ {W:World} {y:Part} (hy:K6 W y) {A:Option Addr} {cs:List Value} (h:∀a,A=some a->a.spot=none∧1<=a.block∧a.block<W.heap.size∧(∃C e fr,W.heap[a.block]?=some (.cells C e fr))∧∀(i:Nat) v,cs[i]?=some v->W.cell? ⟨a.block,a.off+i,none⟩=some v) (hp:∀v∈cs,dJ v=true):∃x,K6 W x∧PartOf x A cs:=by
 cases A with
 |none=>exact ⟨y,hy, λa h=>by cases h⟩
 |some a=>
  obtain ⟨h1,h2,h3,⟨C,e,fr,h4⟩,h5⟩:=h a rfl;refine ⟨(a.block,a.off,cs.toArray),⟨h2,h3,⟨C,e,fr,h4, λi v hv=>?_⟩, λv hv=>hp v (by simpa using hv)⟩, λa' h=>by cases h;exact ⟨h1,rfl⟩⟩;have h6:=h5 i v (by simpa using hv);unfold World.cell? at h6;simp only [h4] at h6;rw [Nat.add_comm];cases hC:C[a.off+i]? with
  |none=>rw [hC] at h6;cases h6
  |some u=>rw [hC] at h6;exact h6
end
end Par
end
section
namespace Par
open Go Go.ChangeShapes Go.WideShapes Go.ChangeAt Go.RowKit Go.Deep Go.Conc Go.ConcM
section
variable {H:Type} {enc:TypeId×Value->H} {P:Program} {W W':World}
theorem y7 (hl:laidOutB P=true) (hb:Below W.heap.size W W'):∀{ts:List TypeId} {vs:List Value} {ds:List (DataW H)} {ps:List MemPlace},(∀t∈ts,P.readableRec t=true∧t<P.types.size)->
 DataW.TrodAll enc P W 0 (λ_=>true) true ts vs ds ps->(∀x∈ps,x.block<W.heap.size)->DataW.TrodAll enc P W' 0 (λb=>decide (b<W.heap.size)) true ts vs ds ps
 | [],[],[],_,_,h,_=>h
 |_::_,_::_,_::_,_,hT,⟨p,q,h1,h2,e⟩,hs=>
  ⟨p,q,Below.trod hl (hT _ (aT.2 (.inl rfl))).1 (hT _ (aT.2 (.inl rfl))).2 h1 hb (λx hx=>hs x (by rw [e];exact List.mem_append_left _ hx)),
    y7 hl hb (λt ht=>hT t (aT.2 (.inr ht))) h2 (λx hx=>hs x (by rw [e];exact List.mem_append_right _ hx)),e⟩
def xX (P:Program) (e:TypeId) (k:Nat):Prop:=
 ∀(H:Type) (enc:TypeId×Value->H) (w:World) (base:Nat) (spare:Nat->Bool) (held:Bool) (n:Nat) (cs:List Value) (x:DataW H×List MemPlace),DataW.trod enc P w base spare held n e cs=some x->∀j,j<k->∃m:Int,cs[j]?=some (.int .i64 m)
theorem Ns {e:TypeId} (he:P.underlying e=some (.int .i64)):xX P e 1:= λH enc w base spare held n cs x h j hj=>by
 obtain ⟨m,rfl,_⟩:=DataW.trod_int he h;obtain rfl:j=0:=by omega
 exact ⟨m,rfl⟩
theorem y8 {e:TypeId} {k:Nat} {fs:Array Field} (he:P.underlying e=some (.struct fs)) (hf:∀(i:Nat) f,fs[i]?=some f->xX P f.type (P.cellsOf f.type)) (hk:∀j,j<k->∃(i:Nat) (f:Field),fs[i]?=some f∧f.offset<=j∧j<f.offset+P.cellsOf f.type):xX P e k:= λH enc w base spare held n cs x h j hj=>by
 obtain ⟨xs,n',_,_,hlen,hxl,hat⟩:=DataW.trod_struct he h;obtain ⟨i,f,hi,h1,h2⟩:=hk j hj;have hil:i<xs.length:=by rw [hxl];exact (aa.1 hi).1
 obtain ⟨m,hm⟩:=hf i f hi H enc w base spare held n' _ _ ((hat i f hi).trans (ax hil)) (j - f.offset) (by omega);refine ⟨m,?_⟩;rw [List.getElem?_take,if_pos (by omega),List.getElem?_drop] at hm;rw [show f.offset+(j - f.offset)=j by omega] at hm;exact hm
theorem Ie {b0:Nat} {t e:TypeId} {k:Nat} (ht:P.underlying t=some (.slice e)) (hk:P.cellsOf e=k) (hI:xX P e k) {v:Value} {d:DataW H} {p:List MemPlace} (hval:Value.okWide P W .any b0 t v) (h:DataW.Trod enc P W 0 (λ_=>true) true t v d p):
 ∃(A:Option Addr) (len cap:Nat),v= .slice A len cap∧len<=cap∧(A=none->len=0∧cap=0)∧∀a,A=some a->W.has P .any b0 a e cap∧∃D:Nat->Nat->Int,∀i j,i<len->j<k->W.cell? ⟨a.block,a.off+(i*k+j),none⟩=some (.int .i64 (D i j)):=by
 obtain ⟨fuel,hf⟩:=h;obtain ⟨A,len,cap,rfl⟩:=okWide_slice ht hval;refine ⟨A,len,cap,rfl,?_⟩;rcases open_slice ht hf with ⟨hcs,_⟩|⟨a,len',cap',m,n,D,Pl,hcs,_,hl,_,hm,_,hi⟩
 ·simp only [Value.cells,List.cons.injEq,Value.slice.injEq,and_true] at hcs;obtain ⟨rfl,rfl,rfl⟩:=hcs;exact ⟨aj _,(λ_=>⟨rfl,rfl⟩), λa h=>by cases h⟩
 ·simp only [Value.cells,List.cons.injEq,Value.slice.injEq,and_true] at hcs;obtain ⟨rfl,rfl,rfl⟩:=hcs;refine ⟨hl,(λh=>by cases h), λa' h=>?_⟩;cases h
  have hhas:W.has P .any b0 a e cap:=by
   unfold Value.okWide at hval;rw [ht] at hval;simp only [Cell.okWide,Cell.ok,ht] at hval;exact hval.2.2
  refine ⟨hhas,?_⟩;have hsp:a.spot=none:=hhas.2.1
  have cell:∀i j,∃x:Int,i<len->j<k->W.cell? ⟨a.block,a.off+(i*k+j),none⟩=some (.int .i64 x):= λi j=>by
   by_cases h1:i<len
   ·by_cases h2:j<k
    ·obtain ⟨cs',hc,htr⟩:=hi i (by rw [hm,if_pos rfl];omega);rw [hk] at hc;obtain ⟨_,_,hat⟩:=World.cells?_some hc;obtain ⟨x,hx⟩:=hI H enc W _ _ _ n cs' _ htr j h2;refine ⟨x, λ_ _=>?_⟩;have h3:=(hat j h2).trans hx;rw [Go.Deep.add_add] at h3
     have e:a.add (i*k+j)=⟨a.block,a.off+(i*k+j),none⟩:=by
      unfold Addr.add;split
      ·rename_i h0;rw [h0,Nat.add_zero];cases a;simp only at hsp;rw [hsp]
      ·rfl
     rw [e] at h3;exact h3
    ·exact ⟨0, λ_ h=>absurd h h2⟩
   ·exact ⟨0, λh=>absurd h h1⟩
  exact ⟨λi j=>(cell i j).choose, λi j h1 h2=>(cell i j).choose_spec h1 h2⟩
theorem Dh {a:Assume} {C:Checked} {os:Os} {f:FuncId} {fn:Func} {s:ChangeSpec} {F:Stop.Interp} {conds:List PathCond} {apart fresh handsOn:Bool}
 (own:ownKnob C.prog.godebug=none) (started:os.Started) (hfn:C.prog.funcs[f]?=some fn)
 (witness:∃(w:World) (tape:Tape) (i:Input),w.os=os∧(w.forCall tape i).Shaped C.prog∧i.vars= []∧Input.okWide C.prog (w.forCall tape i) .any w.heap.size f i∧
   s.pre6 enc C.prog fn conds apart (w.forCall tape i).memory i.args∧a.holds C.prog (lone (Frame.enter C.prog f i.args .normal) [] (w.forCall tape i)))
 (runs:∀(W:World) (base:Nat) (args:Array Value) (ds gs:List (DataW H)) (before:List MemPlace),W.ShapedOpen C.prog->
   (∀(j:Nat) t v,fn.params[j]?=some t->args[j]?=some v->Value.okWide C.prog W .any base t v)->
   DataW.Whole enc C.prog fn.params.toList s.vars apart W args.toList ds gs before->
   conds.all (PathCond.test C.prog ⟨fn.params.toList,ds,s.plain.varTypes C.prog,gs⟩)=true->
   Ends C.prog (λv W'=>s.post enc C.prog fn apart fresh handsOn false W args v { W' with os:=W.os }∧OsLater W.os W'.os) (solo (G (Frame.enter C.prog f args .normal) []) W) #[]):
 ReturnsInLeavingWide a C os f .any (s.pre6 enc C.prog fn conds apart) ((OpenSpec.ofChange s).postWith enc C.prog fn F (outsideKept [.timePasses]) apart fresh handsOn):=by
 refine returnsInLeavingWide_of_good own started witness ?_
 intro w tape i _ hsh _ hok hpre hholds;obtain ⟨_,_,_,fn',hfn',_,_,_,_,hval⟩:=hok;have e:fn'=fn:=aD (hfn'.symm.trans hfn);subst e;obtain ⟨⟨ds,gs,before,hw,hc⟩,hz⟩:=hpre;have hw':=DataW.Whole.of_heap (w':=w.forCall tape i) (by rfl) hw;obtain ⟨M,last,o,w',t',h1,h2,h3,h4⟩:=runs (w.forCall tape i) w.heap.size i.args ds gs before hsh hval hw' hc;obtain ⟨v,e,hp,r1,r2,r3,r4⟩:=h4;exact ⟨M,last,o,w',t',h1,h2,h3,v,e,postWith_blind (postWith_of_post hp.1 hp.2),r1,r2,r3,r4⟩
end
end Par
end
