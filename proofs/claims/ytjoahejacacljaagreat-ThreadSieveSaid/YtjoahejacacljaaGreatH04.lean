/- Part 4. -/
import Derived.Conc.WgGenN3
import Derived.Conc.MuWords
import Derived.Test.YtjoahejacacljaaGreatH03
set_option maxRecDepth 100000
set_option maxHeartbeats 0
set_option linter.all false
namespace cS
open Go Go.Conc Go.ConcM Go.ConcN
section
variable {O:Nat->Prop}
def sm:Nat->(Nat->Nat)->Nat
 |0,_=>0
 |n+1,f=>sm n f+f n
def EF{f g:Nat->Nat}:∀{n:Nat},(∀j,j<n->f j<=g j)->sm n f<=sm n g
 |0,_=>aJ _
 |n+1,h=>by
  have h1:=EF (f:=f) (g:=g) (n:=n) λj hj=>h j (by omega)
  have h2:=h n (by omega);show sm n f+f n<=sm n g+g n;omega
def Mh{f g:Nat->Nat}{i:Nat}:∀{n:Nat},i<n->f i<g i->(∀j,j<n->f j<=g j)->sm n f<sm n g
 |0,hi,_,_=>by omega
 |n+1,hi,hlt,h=>by
  show sm n f+f n<sm n g+g n
  by_cases e:i=n
  .subst e;have h1:=EF (f:=f) (g:=g) (n:=i) λj hj=>h j (by omega)
   omega
  .have h1:=Mh (f:=f) (g:=g) (n:=n) (by omega) hlt λj hj=>h j (by omega)
   have h2:=h n (by omega);omega
section
variable {T Sh ρ:Type} {P:Program} {S:Sys T Sh} {AI:Nat->(Nat->Option T)->Sh->Prop} {free:Sh->Prop} {rk:Nat->(Nat->Option T)->Sh->ρ} {lt:ρ->ρ->Prop}
def TS.tree{T:Type}:TS T->Tr
 | .gK x=>x.tr
 | .lv _ _=>.leaf
def TS.left{T:Type}:TS T->Nat
 | .gK _=>0
 | .lv k _=>k
def trees{T:Type}(n:Nat)(θ:Nat->TS T):List Tr:=(List.range n).map λi=>(θ i).tree
def bit(gs:Array Goroutine)(i:Nat):Nat:=match gs[i]? with
 |some g=>match g.status with
  | .running=>1
  |_=>0
 |none=>0
abbrev Ms(ρ:Type):=ρ×List Tr×Nat×Nat
def ms(rk:Nat->(Nat->Option T)->Sh->ρ)(gs:Array Goroutine)(θ:Nat->TS T)(s:Sh):Ms ρ:=(rk gs.size (stops θ) s,trees gs.size θ,sm gs.size (λi=>(θ i).left),sm gs.size (bit gs))
def Ue(lt:ρ->ρ->Prop):Ms ρ->Ms ρ->Prop:=Prod.Lex lt (Prod.Lex (l7 Tr.Sub) (Prod.Lex Nat.lt Nat.lt))
def Ue.wf(h:WellFounded lt):WellFounded (Ue (ρ:=ρ) lt):=(Prod.lex ⟨_,h⟩ (Prod.lex ⟨_,l7.wf Tr.wf⟩ (Prod.lex Nat.lt_wfRel Nat.lt_wfRel))).wf
def EG{n i:Nat}{θ:Nat->TS T}{a:TS T}:trees n (upd θ i a)=(trees n θ).set i a.tree:=by
 apply List.ext_getElem?;intro j;unfold trees;rw[List.getElem?_set];simp only[List.getElem?_map,List.length_map,List.length_range]
 by_cases hj:i=j
 .subst hj
  by_cases hi:i<n
  .simp[hi,upd_same]
  .simp[hi]
 .by_cases hi:j<n
  .simp[hi,hj,upd_ne (Ne.symm hj)]
  .simp[hi,hj]
def EH{n i:Nat}{θ:Nat->TS T}(hi:i<n):(trees n θ)[i]?=some (θ i).tree:=by unfold trees;simp[hi]
def Cs{θ:Nat->TS T}{i:Nat}{a:TS T}(h:a.stop?=(θ i).stop?):stops (upd θ i a)=stops θ:=by
 funext j;unfold stops
 by_cases hj:j=i
 .subst hj;rw[upd_same];exact h
 .rw[upd_ne hj]
def XU{gs:Array Goroutine}{w:World}{t:Trace}{θ:Nat->TS T}{s:Sh}{γ:Gh}{G D:Nat->Prop}{Dc:Nat->Nat->Prop}(h:MI P S AI free O gs w t θ s γ G D Dc):∀g∈gs,awake g:=by
 intro g hg;obtain⟨i,hi,rfl⟩:=Array.mem_iff_getElem.1 hg;have h1:=h.one i gs[i] (aW hi);cases sM:θ i with
 |lv k d=>
  rw[sM]at h1;rcases h1.1.status with e|e<;>intro t ht<;>rw[e]at ht<;>cases ht
 |gK x=>
  rw[sM]at h1;have hrun:x.g.status=.running:=h1.2.1.running λ_ _ _=>jk
  rcases h1.1 with e|⟨_,_,e⟩<;>intro t ht<;>rw[e]at ht
  .rw[hrun]at ht;cases ht
  .cases ht
def MI.step(ok:pF S AI free rk lt){gs:Array Goroutine}{w:World}{sl:Option (Nat×Nat)}{t:Trace}{θ:Nat->TS T}{s:Sh}{γ:Gh}{G D:Nat->Prop}{Dc:Nat->Nat->Prop}(h:MI P S AI free O gs w t θ s γ G D Dc):
 (∃x,θ 0=.gK x∧gs[0]?=some x.g∧x.tr=.leaf∧S.ret x.Tt=true)∨
 ∃gs' w' sl' ops Iq s' γ' G' D' DZ,stepT P (crowd gs w sl)=(.next (crowd gs' w' sl'),ops)∧MI P S AI free O gs' w' (t++ops) Iq s' γ' G' D' DZ∧Ue lt (ms rk gs' Iq s') (ms rk gs θ s):=by
 obtain⟨x0,hx0⟩:=h.main
 by_cases hA:x0.tr=.leaf∧S.ret x0.Tt=true
 .refine .inl ⟨x0,hx0,?_,hA⟩;have hp:=h.pos;have h1:=h.one 0 gs[0] (aW hp);rw[hx0]at h1;rcases h1.1 with e|⟨_,e,_⟩
  .rw[<-e];exact aW hp
  .exact absurd e (ok.Kj _ _ hA.2)
 .refine .inr ?_
  have some1:∃(i:Nat)(g:Goroutine),gs[i]?=some g∧g.status=.running:=by
   obtain⟨i,Tt,hi,hφ,hnb⟩:=ok.alive h.ai;refine⟨i,gs[i],aW hi,?_⟩;have h1:=h.one i gs[i] (aW hi);cases sM:θ i with
   |lv k d=>unfold stops at hφ;rw[sM]at hφ;cases hφ
   |gK x=>
    rw[sM]at h1;have:x.Tt=Tt:=by unfold stops at hφ;rw[sM]at hφ;exact aT hφ
    rcases h1.1 with e|⟨_,e,_⟩
    .rw[e];exact h1.2.1.running λ_ _ _=>jk
    .rw[this]at e;exact absurd e hnb
  obtain⟨i,g,d,sl',hi,hg,hst⟩:=crowd_pick (P:=P) (w:=w) (sl:=sl) (XU h) some1;have hm:=MI.at ok h d;generalize w.at d=wd at hst hm;have hlt:=(aI.1 hi).1;have h1:=hm.one i g hi;cases sM:θ i with
  |lv k d'=>
   obtain⟨k',d'',g',es,hk,hgo,hm'⟩:=MI.leaver hm hi sM hg;refine⟨_,_,sl',_,_,s,γ,G,D,Dc,by rw[hst,runT_crowd_go hi hgo],hm',?_⟩;unfold ms Ue;have hsz:((gs.map (woken P g g' wd)).setIfInBounds i g').size=gs.size:=by simp
   rw[hsz,Cs (by rw[sM];rfl),EG]
   have htr:(trees gs.size θ).set i (TS.lv (T:=T) k' d'').tree=trees gs.size θ:=by
    apply List.ext_getElem?;intro j;rw[List.getElem?_set];split
    .rename_i e;subst e;rw[EH hlt,sM];split
     .rfl
     .rename_i e;unfold trees at e;simp at e;omega
    .rfl
   rw[htr];refine .right _ (.right _ (.left _ _ ?_));refine Mh hlt (by rw[upd_same,sM];show k'<k;omega) λj _=>?_
   by_cases hj:j=i
   .subst hj;rw[upd_same,sM];show k'<=k;omega
   .rw[upd_ne hj];exact aJ _
  |gK x=>
   rw[sM]at h1
   have hgx:g=x.g:=by
    rcases h1.1 with e|⟨_,_,e⟩
    .exact e
    .rw[e]at hg;cases hg
   subst hgx;cases htr:x.tr with
   |node f=>
    obtain⟨g',w',es,hgo,hm'⟩:=MI.private ok hm hi sM htr;refine⟨_,_,sl',_,_,s,_,G,D,Dc,by rw[hst,runT_crowd_go hi hgo],hm',?_⟩;unfold ms Ue;have hsz:((gs.map (woken P x.g g' w')).setIfInBounds i g').size=gs.size:=by simp
    rw[hsz,Cs (by rw[sM];rfl),EG];refine .right _ (.left _ _ (l7.QA (b:=.node f) ?_ ⟨f,wd,rfl,rfl⟩));rw[EH hlt,sM];exact congrArg some htr
   |leaf=>
    obtain⟨_,Mg,Cm,_⟩:=h1;rw[htr]at Mg;have XV:=(Mg wd Cm).law;have hφ:stops θ i=some x.Tt:=by unfold stops;rw[sM];rfl
    obtain⟨f1,f2,f3,f4⟩:=ok.fits hm.ai hlt hφ;obtain⟨l1,l2,l3⟩:=XV;have l4:=l3 s hm.rep f1
    by_cases hr:S.ret x.Tt=true
    .exfalso;have h0:=f4 hr;subst h0;rw[hx0]at sM;cases sM;exact hA ⟨htr,hr⟩
    rw[aa hr]at l4;have hr':S.ret x.Tt=false:=by simpa using hr
    by_cases hf:S.fork x.Tt=true
    .rw[aj hf]at l4;obtain⟨T',Tc,s',g',child,mX,dD,a1,a2,a3,a4,a5,a6,a7⟩:=l4;have h0:=f3 hf;subst h0;obtain⟨Ud,ZU,γ',hm',hst'⟩:=MI.Om ok hm hi sM hf a1 a3 a4 a5 a6 a7 x.g.frame.fn child.frame.fn x.g.frame.place x.g.frame.place;refine⟨_,_,sl',_,_,s',γ',G,D,Dc,by rw[hst,runT_crowd_spawn hi a2];rfl,hm',?_⟩;unfold ms Ue;have hsz:((gs.setIfInBounds 0 g').push child).size=gs.size+1:=by simp
     rw[hsz,hst'];exact .left _ _ (ok.spawn hm.ai hφ hf a1).2
    .rw[aa hf]at l4;have hf':S.fork x.Tt=false:=by simpa using hf
     rcases l4 with⟨hb,hgo⟩|⟨hb,T',s',g',w',es,a1,a2,a3,a4,a5,a6,a7⟩
     .have hm':=MI.waits hm hi sM htr hb
      have hmap:(gs.map (woken P x.g { x.g with status:=.blocked } wd)).setIfInBounds i { x.g with status:=.blocked }=gs.setIfInBounds i { x.g with status:=.blocked }:=by
       have:woken P x.g { x.g with status:=.blocked } wd=id:=by funext o;unfold woken;simp
       rw[this,Array.map_id]
      refine⟨_,_,sl',_,θ,s,γ,G,D,Dc,by rw[hst,runT_crowd_go hi hgo,hmap],by have e:MemOp.ofEvents i x.g.frame.fn x.g.frame.place #[]= #[]:=rfl;rw[e,Array.append_empty];exact hm',?_⟩
      unfold ms Ue;have hsz:(gs.setIfInBounds i { x.g with status:=.blocked }).size=gs.size:=by simp
      rw[hsz];refine .right _ (.right _ (.right _ ?_))
      have hbi:bit (gs.setIfInBounds i { x.g with status:=.blocked }) i=0:=by unfold bit;rw[aD hlt]
      have an1:bit gs i=1:=by unfold bit;rw[hi];simp only[hg]
      refine Mh hlt (by rw[hbi,an1];omega) λj _=>?_
      by_cases hj:j=i
      .subst hj;rw[hbi];omega
      .unfold bit;rw[au (Ne.symm hj)];exact aJ _
     .have fin:∀{Iq:Nat->TS T}{γ' G' D' DZ},MI P S AI free O ((gs.map (woken P x.g g' w')).setIfInBounds i g') w' (t++MemOp.ofEvents i x.g.frame.fn x.g.frame.place es) Iq s' γ' G' D' DZ->stops Iq=upd (stops θ) i (if S.quit T' then none else some T')->
       ∃gs' w' sl' ops Iq s' γ' G' D' DZ,stepT P (crowd gs w sl)=(.next (crowd gs' w' sl'),ops)∧MI P S AI free O gs' w' (t++ops) Iq s' γ' G' D' DZ∧Ue lt (ms rk gs' Iq s') (ms rk gs θ s):=by
       intro Iq γ' G' D' DZ hm' hst';refine⟨_,_,sl',_,Iq,s',γ',G',D',DZ,by rw[hst,runT_crowd_go hi a2],hm',?_⟩;unfold ms Ue;have hsz:((gs.map (woken P x.g g' w')).setIfInBounds i g').size=gs.size:=by simp
       rw[hsz,hst'];exact .left _ _ (ok.move hm.ai hlt hφ hf' hr' hb a1).2
      cases hk:S.kind x.Tt<;>rw[hk]at a7<;>dsimp only at a7
      case pz=>obtain⟨pG,γ',G',b1,b2⟩:=MI.UD ok hm hi sM hf' hr' hb a1 a3 a4 a5 a6 hk a7;exact fin b1 b2
      case pE=>obtain⟨pG,γ',G',b1,b2⟩:=MI.UE ok hm hi sM hf' hr' hb a1 a3 a4 a5 a6 hk a7;exact fin b1 b2
      case done=>obtain⟨pG,γ',D',DZ,b1,b2⟩:=MI.QH ok hm hi sM hf' hr' hb a1 a3 a4 a5 a6 hk a7.1 a7.2;exact fin b1 b2
      case join=>obtain⟨pG,γ',G',D',DZ,b1,b2⟩:=MI.QI ok hm hi sM hf' hr' hb a1 a3 a4 a5 a6 hk a7;exact fin b1 b2
      all_goals
       obtain⟨pG,b1,b2⟩:=MI.Ol ok hm hi sM hf' hr' hb a1 a3 a4 a5 a6 (by rw[hk];rfl) a7;exact fin b1 b2
def MI.run(ok:pF S AI free rk lt):∀(μ:Ms ρ){gs:Array Goroutine}{w:World}{sl:Option (Nat×Nat)}{t:Trace}{θ:Nat->TS T}{s:Sh}{γ:Gh}{G D:Nat->Prop}{Dc:Nat->Nat->Prop},ms rk gs θ s=μ->MI P S AI free O gs w t θ s γ G D Dc->
 ∃N gs' w' sl' t' Iq s' γ' G' D' DZ x,runNT P N (crowd gs w sl) t=(.next (crowd gs' w' sl'),t')∧MI P S AI free O gs' w' t' Iq s' γ' G' D' DZ∧Iq 0=.gK x∧gs'[0]?=some x.g∧x.tr=.leaf∧S.ret x.Tt=true:=by
 intro μ
 induction μ using(Ue.wf ok.wf).induction with
 |_ μ ih=>
  intro gs w sl t θ s γ G D Dc hμ h;rcases MI.step (sl:=sl) ok h with⟨x,h1,h2,h3,h4⟩|⟨gs1,w1,sl1,ops,θ1,s1,γ1,G1,D1,Dc1,h1,h2,h3⟩
  .exact⟨0,gs,w,sl,t,θ,s,γ,G,D,Dc,x,rfl,h,h1,h2,h3,h4⟩
  .obtain⟨N,gs',w',sl',t',Iq,s',γ',G',D',DZ,x,r,rest⟩:=ih _ (by rw[<-hμ];exact h3) (sl:=sl1) rfl h2;exact⟨N+1,gs',w',sl',t',Iq,s',γ',G',D',DZ,x,by rw[runNT_succ_next h1];exact r,rest⟩
end
end
section
variable {O:Nat->Prop}
open Classical in
noncomputable def Ef(dead:Nat->Prop)(B:Nat):Gh:={ B:=B,who:= λl=>if fF l then(if dead (lb l)then .sy else .gK 0)else .fr,live:= λg=>g=0,act:= λ_=>False,lock:=none,wg:=none }
structure QF(P:Program)(dead:Nat->Prop)(gs:Array Goroutine)(w:World)(t:Trace)(g:Goroutine):Prop where
 main:gs[0]?=some g
 lv:∀i g',i≠0->gs[i]?=some g'->∃k,QuitsD P k (Deaf t i) g'
 d0:Deaf t 0=0
 nums:∀op∈t,op.g<gs.size
 cq:∀b,dead b->b<w.heap.size
 ti:TI (Ef dead w.heap.size) t
def Z0:fO:={ ro:= λ_=>False,sy:= λ_=>False,cl:= λ_ _=>False }
def Ends(P:Program)(Post:Value->World->Prop)(m:Machine)(t:Trace):Prop:=
 ∃N last o w' t',runNT P (N+1) m t=(.ended o w',t')∧runN P N m=.next last∧step P last=.ended o w'∧Good P Post last o w' t'
def Ends.after{P:Program}{Post:Value->World->Prop}{m m':Machine}{t t':Trace}{N:Nat}(h:runNT P N m t=(.next m',t'))(he:Ends P Post m' t'):Ends P Post m t:=by
 obtain⟨K,last,o,w',t'',h1,h2,h3,h4⟩:=he;refine⟨N+K,last,o,w',t'',?_,?_,h3,h4⟩
 .rw[Nat.add_assoc,runNT_add,h];exact h1
 .have :=runNT_fst P N m t;rw[h]at this;rw[runN_add, <-this];exact h2
def iF(P:Program)(Post:Value->World->Prop)(dead own:Nat->Prop)(g:Goroutine)(W:World):Prop:=
 g.status=.running∧g.offers=none∧((∀b,own b->b<W.heap.size∧¬dead b)->∀W1,dM Z0 own W W1->∀gs t sl,QF P dead gs W1 t g->Ends P Post (crowd gs W1 sl) t)
section
variable {T Sh ρ:Type} {P:Program} {S:Sys T Sh} {AI:Nat->(Nat->Option T)->Sh->Prop} {free:Sh->Prop} {rk:Nat->(Nat->Option T)->Sh->ρ} {lt:ρ->ρ->Prop} {Post:Value->World->Prop} {dead own:Nat->Prop} {g:Goroutine} {W w:World}
structure Wz(P:Program)(S:Sys T Sh)(AI:Nat->(Nat->Option T)->Sh->Prop)(free:Sh->Prop)(dead own:Nat->Prop)(g:Goroutine)(w:World)(T0:T)(s0:Sh)(Ro Gl Pt O:Nat->Prop):Prop where
 mJ:∀b,dead b->S.syn b∨O b
 old:∀b,O b->b<w.heap.size∧¬S.syn b∧¬own b∧¬Ro b∧¬Gl b∧¬Pt b
 syn:∀b,S.syn b->b<w.heap.size
 dD:∀b,own b->b<w.heap.size∧¬S.syn b∧¬Ro b∧¬Gl b∧¬Pt b
 ro:∀b,Ro b->b<w.heap.size∧¬S.syn b
 gl:∀b,Gl b->b<w.heap.size∧¬S.syn b∧¬Ro b
 pt:∀b,Pt b->b<w.heap.size∧¬S.syn b∧¬Ro b∧¬Gl b
 sf:∀b,(S.Z 0 T0).ro b->Ro b
 zsy:∀b,(S.Z 0 T0).sy b->S.syn b∨Pt b
 ZX:∀b k,(S.Z 0 T0).cl b k->(S.Z 0 T0).sy b∧Pt b
 ai:∀n,0<n->AI n (λi=>if i=0 then some T0 else none) s0
 quit:S.quit T0=false
 deaf:S.deaf T0=0
 rep:S.Bb s0 w
 j:free s0->S.J s0 Gl w
 dp:S.Dp s0 (λ_=>False) (λ_ _=>False) w
 wg:S.kW s0=none->∀b,¬Ro b∧¬Gl b∧¬Pt b
 on:On P S (At P S) 0 T0 own g w
def QF.open{gs:Array Goroutine}{t:Trace}(hq:QF P dead gs w t g){T0:T}{s0:Sh}{Ro Gl Pt:Nat->Prop}(o:Wz P S AI free dead own g w T0 s0 Ro Gl Pt O):
 ∃θ γ,MI P S AI free O gs w t θ s0 γ Gl (λ_=>False) (λ_ _=>False):=by
 classical
 have hlt:=(aI.1 hq.main).1;obtain⟨dN,iJ⟩:∃dN:Loc->Who,dN= λl=>if fF l then(if S.syn (lb l)∨O (lb l)then .sy else if Ro (lb l)then .ro else if Gl (lb l)then .lk else if Pt (lb l)∧l=.obj (lb l)then .pt else .gK 0)else .fr:=⟨_,rfl⟩
 have UF:∀l,fF l->S.syn (lb l)∨O (lb l)->dN l=.sy:= λl h1 h2=>by rw[iJ];simp[h1,h2]
 have mj:∀l,fF l->¬(S.syn (lb l)∨O (lb l))->Ro (lb l)->dN l=.ro:= λl h1 h2 h3=>by rw[iJ];simp[h1,h2,h3]
 have ZT:∀l,fF l->¬(S.syn (lb l)∨O (lb l))->¬Ro (lb l)->Gl (lb l)->dN l=.lk:= λl h1 h2 h3 h4=>by rw[iJ];simp[h1,h2,h3,h4]
 have xf:∀b,¬(S.syn b∨O b)->¬Ro b->¬Gl b->Pt b->dN (.obj b)=.pt:= λb h2 h3 h4 h5=>by rw[iJ];have h1:fF (.obj b):=trivial;have e:lb (.obj b)=b:=rfl;simp only[h1,e,h2,h3,h4,h5,if_true,if_false,and_self]
 have Ww:∀l,fF l->¬(S.syn (lb l)∨O (lb l))->¬Ro (lb l)->¬Gl (lb l)->¬(Pt (lb l)∧l=.obj (lb l))->dN l=.gK 0:= λl h1 h2 h3 h4 h5=>by rw[iJ];simp only[h1,h2,h3,h4,h5,if_true,if_false]
 have Tb:∀l,¬fF l->dN l=.fr:= λl h1=>by rw[iJ];simp[h1]
 have q0:∀l,fF l->¬dead (lb l)->(Ef dead w.heap.size).who l=.gK 0:= λl h1 h2=>by unfold Ef;simp[h1,h2]
 have q1:∀l,fF l->dead (lb l)->(Ef dead w.heap.size).who l=.sy:= λl h1 h2=>by unfold Ef;simp[h1,h2]
 have q2:∀l,¬fF l->(Ef dead w.heap.size).who l=.fr:= λl h1=>by unfold Ef;simp[h1]
 obtain⟨γ,hγ⟩:∃γ:Gh,γ= { Ef dead w.heap.size with who:=dN,wg:=S.kW s0,lock:=S.fM s0 }:=⟨_,rfl⟩;have lS:γ.who=dN:=by rw[hγ]
 have hti:TI γ t:=by
  rw[hγ];refine hq.ti.ac4 (λg hg=>hg) (λl=>?_) (λ_ _ h=>h) rfl rfl _ _
  by_cases hm:fF l
  .by_cases hd:dead (lb l)
   .exact .inl (by rw[q1 l hm hd,UF l hm (o.mJ _ hd)])
   .by_cases h2:S.syn (lb l)∨O (lb l)
    .exact .inr ⟨q0 l hm hd,.inr (.inr (.inl (UF l hm h2)))⟩
    by_cases h3:Ro (lb l)
    .exact .inr ⟨q0 l hm hd,.inl (mj l hm h2 h3)⟩
    by_cases h4:Gl (lb l)
    .exact .inr ⟨q0 l hm hd,.inr (.inl (ZT l hm h2 h3 h4))⟩
    by_cases h5:Pt (lb l)∧l=.obj (lb l)
    .have :=xf _ h2 h3 h4 h5.1;rw[<-h5.2]at this;exact .inr ⟨q0 l hm hd,.inr (.inr (.inr this))⟩
    .exact .inl (by rw[Ww l hm h2 h3 h4 h5,q0 l hm hd])
  .exact .inl (by rw[Tb l hm,q2 l hm])
 have ZY:∀b,own b∨Ro b∨Gl b∨Pt b->¬S.syn b->¬(S.syn b∨O b):= λb hb hs hx=>by
  rcases hx with hx|hx
  .exact hs hx
  .obtain⟨_,_,a1,a2,a3,a4⟩:=o.old b hx;rcases hb with hb|hb|hb|hb
   .exact a1 hb
   .exact a2 hb
   .exact a3 hb
   .exact a4 hb
 have hR:gz γ w.heap.size 0 (S.Z 0 T0) own:=by
  refine⟨λb hb=>⟨(o.dD b hb).1, λl h1 h2=>?_⟩, λb c hb=>⟨(o.ZX b c hb).1,?_, λa e1 e2=>?_⟩, λb hb=>⟨(o.ro b (o.sf b hb)).1, λl h1 h2=>?_⟩, λb hb=>?_⟩
  .obtain⟨_,a1,a2,a3,a4⟩:=o.dD b hb;rw[lS];exact Ww l h1 (by rw[h2];exact ZY b (.inl hb) a1) (by rw[h2];exact a2) (by rw[h2];exact a3) (by rw[h2];exactλx=>a4 x.1)
  .obtain⟨_,a1,a2,a3⟩:=o.pt b (o.ZX b c hb).2;rw[lS];exact xf b (ZY b (.inr (.inr (.inr (o.ZX b c hb).2))) a1) a2 a3 (o.ZX b c hb).2
  .obtain⟨_,a1,a2,a3⟩:=o.pt b (o.ZX b c hb).2;rw[lS];exact Ww _ trivial (by show¬(S.syn a.block∨O a.block);rw[e1];exact ZY b (.inr (.inr (.inr (o.ZX b c hb).2))) a1) (by show¬Ro a.block;rw[e1];exact a2) (by show¬Gl a.block;rw[e1];exact a3) (λx=>by cases x.2)
  .obtain⟨_,a1⟩:=o.ro b (o.sf b hb);rw[lS];exact mj l h1 (by rw[h2];exact ZY b (.inr (.inl (o.sf b hb))) a1) (by rw[h2];exact o.sf b hb)
  .rcases o.zsy b hb with h1|h1
   .exact⟨o.syn b h1,.inl (by rw[lS];exact UF (.obj b) trivial (.inl h1))⟩
   .obtain⟨a0,a1,a2,a3⟩:=o.pt b h1;exact⟨a0,.inr (by rw[lS];exact xf b (ZY b (.inr (.inr (.inr h1))) a1) a2 a3 h1)⟩
 obtain⟨Ud,XT,QJ,QK⟩:=pI (s':=s0) (t':=t) o.quit o.on (by rw[hq.d0,o.deaf]) (γ':=γ) (by rw[hγ];rfl) (λh0=>absurd rfl h0) hR;rw[aa (by rw[o.quit];simp)]at QJ
 let θ:Nat->TS T:= λi=>if i=0 then Ud else if h:∃g' k,gs[i]?=some g'∧QuitsD P k (Deaf t i) g' then .lv h.choose_spec.choose (Deaf t i)else .lv 0 0
 have an2:∀i g',i≠0->gs[i]?=some g'->∃k,θ i=.lv k (Deaf t i)∧QuitsD P k (Deaf t i) g':=by
  intro i g' h0 hg;obtain⟨k,hk⟩:=hq.lv i g' h0 hg;have h:∃g' k,gs[i]?=some g'∧QuitsD P k (Deaf t i) g':=⟨g',k,hg,hk⟩
  refine⟨h.choose_spec.choose,?_,?_⟩
  .show(if i=0 then Ud else if h:∃g' k,gs[i]?=some g'∧QuitsD P k (Deaf t i) g' then TS.lv h.choose_spec.choose (Deaf t i)else .lv 0 0)=_;rw[aa h0,dif_pos h]
  .have h3:=h.choose_spec.choose_spec;have e:g'=h.choose:=aT (hg.symm.trans h3.1);rw[e];exact h3.2
 have hstops:stops θ= λi=>if i=0 then some T0 else none:=by
  funext i;unfold stops
  by_cases h0:i=0
  .subst h0;exact QJ
  .show(if i=0 then Ud else if h:∃g' k,gs[i]?=some g'∧QuitsD P k (Deaf t i) g' then TS.lv h.choose_spec.choose (Deaf t i)else .lv 0 0).stop?=_;rw[aa h0,aa h0];split<;>rfl
 refine⟨θ,γ,⟨λi gi hi=>?_,QK,hlt,by rw[hstops];exact o.ai _ hlt,o.rep,hti,by rw[hγ];rfl,hq.nums, λb hb=>⟨hb.elim (o.syn b) λx=>(o.old b x).1, λl h1 h2=>by rw[lS];exact UF l h1 (by rw[h2];exact hb)⟩, λl hl=>by rw[lS];exact Tb l hl, λl hl=>?_, λi hi=>?_, λhn l hl hs=>?_,by rw[hγ],by rw[hγ], λhf=>⟨o.j hf, λb hb=>⟨(o.gl b hb).1, λl h1 h2=>?_⟩⟩,o.dp, λb hb=>hb.elim, λb k hb=>hb.elim⟩⟩
 .by_cases h0:i=0
  .subst h0;rw[hq.main]at hi;cases hi;exact XT
  .obtain⟨k,h1,h2⟩:=an2 i gi h0 hi;rw[h1];exact⟨h2,rfl,h0, λha=>by rw[hγ]at ha;exact ha⟩
 .rw[lS]
  by_cases h2:S.syn (lb l)∨O (lb l)
  .rw[UF l hl h2];exact⟨by simp, λ_=>h2⟩
  by_cases h3:Ro (lb l)
  .rw[mj l hl h2 h3];exact⟨by simp,by simp⟩
  by_cases h4:Gl (lb l)
  .rw[ZT l hl h2 h3 h4];exact⟨by simp,by simp⟩
  by_cases h5:Pt (lb l)∧l=.obj (lb l)
  .have :=xf _ h2 h3 h4 h5.1;rw[<-h5.2]at this;rw[this];exact⟨by simp,by simp⟩
  .rw[Ww l hl h2 h3 h4 h5];exact⟨by simp,by simp⟩
 .rw[hγ]at hi;exact hi.elim
 .obtain⟨a1,a2,a3⟩:=o.wg hn (lb l);rw[lS];exact Ww l hl hs a1 a2 (λx=>a3 x.1)
 .obtain⟨_,a1,a2⟩:=o.gl b hb;rw[lS];exact ZT l h1 (by rw[h2];exact ZY b (.inr (.inr (.inl hb))) a1) (by rw[h2];exact a2) (by rw[h2];exact hb)
def MI.close{gs:Array Goroutine}{t:Trace}{θ:Nat->TS T}{s:Sh}{γ:Gh}{G D:Nat->Prop}{Dc:Nat->Nat->Prop}(h:MI P S AI free O gs w t θ s γ G D Dc)
 {x:QC T} (h0:gs[0]?=some x.g) (hx:θ 0=.gK x) (hl:S.fM s=none) (hw:S.kW s=none) (hd:S.deaf x.Tt=0) (hj:∀j,j<gs.size->j≠0->stops θ j=none):
 QF P (λb=>S.syn b∨O b) gs w t x.g∧∀b,x.own b->b<w.heap.size∧¬(S.syn b∨O b):=by
 classical
 have h1:=h.one 0 x.g h0;rw[hx]at h1;obtain⟨_,_,_,kT,lG,_,dV⟩:=h1
 have kq:∀i g',i≠0->gs[i]?=some g'->∃k d,θ i=.lv k d∧QuitsD P k d g'∧Deaf t i=d∧¬γ.act i:=by
  intro i g' hi hg;have h1:=h.one i g' hg;cases sM:θ i with
  |gK y=>
   have :=hj i (aI.1 hg).1 hi;unfold stops at this;rw[sM]at this;cases this
  |lv k d=>rw[sM]at h1;exact⟨k,d,rfl,h1.1,h1.2.1,h1.2.2.2⟩
 have hno:∀i,i≠0->¬γ.act i:= λi hi ha=>by have hlt:=h.yg i ha;obtain⟨_,_,_,_,_,hn⟩:=kq i gs[i] hi (aW hlt);exact hn ha
 have iJ:γ.who=(Ef (λb=>S.syn b∨O b) w.heap.size).who:=by
  funext l
  by_cases hm:fF l
  .by_cases hs:S.syn (lb l)∨O (lb l)
   .rw[(h.syn _ hs).2 l hm rfl];unfold Ef;simp[hm,hs]
   .rw[h.jn hw l hm hs];unfold Ef;simp[hm,hs]
  .rw[h.uh l hm];unfold Ef;simp[hm]
 refine⟨⟨h0, λi g' hi hg=>?_,by rw[kT,hd],h.nums, λb hb=>(h.syn b hb).1,?_⟩, λb hb=>⟨(dV.own b hb).1, λhs=>?_⟩⟩
 .obtain⟨k,d,_,h2,h3,_⟩:=kq i g' hi hg;exact⟨k,by rw[h3];exact h2⟩
 .have hti:=h.ti;have hnw:=hti.new;rw[h.B]at hnw;refine⟨λl i hl=>hti.gK l i (by rw[iJ];exact hl), λl i hl hlv=>hti.ro l i (by rw[iJ];exact hl) (by have hlv:i=0:=hlv;rw[hlv];exact lG), λi z op hs hz hop=>?_, λl i z hl hz e=>?_,hnw, λi op hi hg hs=>?_,hti.nr,hti.nl⟩
  .refine(hti.sy i z op (by rw[iJ];exact hs) hz hop).imp id λh1 k hk=>?_
   have hk:k=0:=hk;rw[hk];exact h1 0 lG
  .exfalso;have hl:(Ef (λb=>S.syn b∨O b) w.heap.size).who l=.lk:=hl;unfold Ef at hl;dsimp only at hl;split at hl
   .split at hl<;>cases hl
   .cases hl
  .have hs':Says γ t i:=hs.imp id λ⟨z,hz,hn⟩=>⟨z,hz,by rw[iJ];exact hn⟩
   rcases hti.ho i op hi hg hs' with h2|h2|⟨a0,h2,_⟩
   .exact absurd h2 (hno _ hg)
   .exact .inr (.inl h2)
   .rw[h.kW,hw]at h2;cases h2
 .have :=((h.syn b hs).2 (.obj b) trivial rfl).symm.trans (dV.kX hb);cases this
end
end
section
section
variable {P:Program} {Post:Value->World->Prop} {dead own:Nat->Prop} {g:Goroutine} {W w:World}
def iF.rely{W1:World}(h:iF P Post dead own g W)(hlt:∀b,own b->b<W.heap.size)(hr:dM Z0 own W W1):iF P Post dead own g W1:=
 ⟨h.1,h.2.1, λho W2 h2=>h.2.2 (λb hb=>⟨hlt b hb,(ho b hb).2⟩) W2 (hr.trans h2)⟩
def iF.phase{T Sh ρ:Type}{S:Sys T Sh}{AI:Nat->(Nat->Option T)->Sh->Prop}{free:Sh->Prop}{rk:Nat->(Nat->Option T)->Sh->ρ}{lt:ρ->ρ->Prop}(ok:pF S AI free rk lt)
 (fin:∀{n φ s Tt},AI n φ s->0<n->φ 0=some Tt->S.ret Tt=true->S.fM s=none∧S.kW s=none∧S.deaf Tt=0∧∀j,j<n->j≠0->φ j=none)
 (hg:g.status=.running) (hoff:g.offers=none)
 (h:∀W1,dM Z0 own W W1->(∀b,dead b->b<W1.heap.size)->(∀b,own b->b<W1.heap.size∧¬dead b)->∃dR T0 s0 Ro Gl Pt O,Wz P S AI free dead dR g W1 T0 s0 Ro Gl Pt O∧
   ∀Tt own g W,S.ret Tt=true->S.Anch Tt own g W->(∀b,own b->b<W.heap.size∧¬(S.syn b∨O b))->iF P Post (λb=>S.syn b∨O b) own g W):iF P Post dead own g W:=by
 refine⟨hg,hoff, λho W1 hr gs t sl hq=>?_⟩;obtain⟨dR,T0,s0,Ro,Gl,Pt,O,o,hk⟩:=h W1 hr hq.cq λb hb=>⟨aK (ho b hb).1 hr.size,(ho b hb).2⟩
 obtain⟨θ,γ,hm⟩:=hq.open o;obtain⟨N,gs',w',sl',t',Iq,s',γ',G',D',DZ,x,hrun,hm',hx,hgx,hl,lU⟩:=MI.run (sl:=sl) ok _ rfl hm;have hφ:stops Iq 0=some x.Tt:=by unfold stops;rw[hx];rfl
 obtain⟨f1,f2,f3,f4⟩:=fin hm'.ai hm'.pos hφ lU;obtain⟨hq',hown⟩:=hm'.close hgx hx f1 f2 f3 f4;have h1:=hm'.one 0 x.g hgx;rw[hx]at h1;obtain⟨_,Mg,Cm,_⟩:=h1;rw[hl]at Mg;have XV:=(Mg w' Cm).law;have hA:=XV.2.2 s' hm'.rep (ok.fits hm'.ai hm'.pos hφ).1;rw[aj lU]at hA;exact Ends.after hrun ((hk _ _ _ _ lU hA hown).2.2 hown w' (dM.refl _) gs' t' sl' hq')
def quiet(dead:Nat->Prop)(X:(Nat->Prop)->Goroutine->World->Prop):Sys Unit Unit where
 Bb:= λ_ _=>True
 syn:=dead
 fM:= λ_=>none
 kW:= λ_=>none
 mv:= λ_ _ _ _ _=>False
 sp:= λ_ _ _ _ _=>False
 blk:= λ_ _=>False
 wakes:= λ_=>false
 kind:= λ_=>.disable
 fork:= λ_=>false
 ret:= λ_=>true
 quit:= λ_=>false
 deaf:= λ_=>0
 past:= λ_=>false
 Z:= λ_ _=>Z0
 J:= λ_ _ _=>True
 Dp:= λ_ _ _ _=>True
 fits:= λ_ _ _=>True
 Anch:= λ_=>X
def UG(n:Nat)(φ:Nat->Option Unit)(_:Unit):Prop:=0<n∧φ= λi=>if i=0 then some ()else none
def UH(dead:Nat->Prop)(X:(Nat->Prop)->Goroutine->World->Prop):pF (quiet dead X) UG (λ_=>False) (λ_ _ _=>(0:Nat)) Nat.lt where
 wf:=Nat.lt_wfRel.wf
 fits:= λ{n φ s i Tt}h hi hφ=>by
  refine⟨trivial,rfl, λh=>(by cases h), λ_=>?_⟩;obtain⟨_,rfl⟩:=h;dsimp only at hφ;split at hφ
  .assumption
  .cases hφ
 move:= λ_ _ _ _ _ _ h=>h.elim
 spawn:= λ_ _ _ h=>h.elim
 Ki:= λ_ _ _ h=>h.elim
 stay:= λ_ _ _ _ _ h=>h.elim (λh=>h.elim) (λ⟨_,h⟩=>h.elim)
 yc:= λ_ h=>by cases h
 iD:= λ_ _ _ h=>h.elim
 plain:= λ_ _ _ h=>h.elim
 pz:= λ_ _ _ h=>h.elim
 pE:= λ_ _ _ h=>h.elim
 done:= λ_ _ _ h=>h.elim
 join:= λ_ _ _ h=>h.elim
 joined:= λh _ j _ hj=>by obtain⟨_,rfl⟩:=h;exact aa hj
 quits:= λ_ _ _ h=>h.elim
 FJ:= λ_ _ _=>⟨λh=>(by cases h), λh=>(by cases h)⟩
 alive:= λh=>by obtain⟨h1,rfl⟩:=h;exact⟨0,(),h1,rfl, λh=>h⟩
 Kj:= λ_ _ _ h=>h
 EC:= λ_ _ _ _=>trivial
 vz:= λ_ _ _ _ _=>trivial
 uA:= λ_ _ _ _ _ _=>trivial
 yf:= λ_ _ _ _ _ _ _ _=>trivial
def iF.walk(h:Gw P true Z0 (λown g W=>iF P Post dead own g W) own g W)(hg:g.status=.running)(hoff:g.offers=none):iF P Post dead own g W:=by
 refine iF.phase (S:=quiet dead λown g W=>iF P Post dead own g W) (UH dead _) (λ{n φ s Tt}h hn h0 hr=>⟨rfl,rfl,rfl, λj _ hj=>by obtain⟨_,rfl⟩:=h;exact aa hj⟩) hg hoff (λW1 hr hd ho=>?_);have eD:(λb=>(quiet dead λown g W=>iF P Post dead own g W).syn b∨False)=dead:=funext λb=>propext ⟨λh=>h.elim id az,.inl⟩
 refine⟨own,(),(), λ_=>False, λ_=>False, λ_=>False, λ_=>False,⟨λ_ h=>.inl h, λ_ h=>az h,hd, λb hb=>⟨(ho b hb).1,(ho b hb).2, λh=>h, λh=>h, λh=>h⟩, λ_ h=>h.elim, λ_ h=>h.elim, λ_ h=>h.elim, λ_ h=>h.elim, λ_ h=>h.elim, λ_ _ h=>h.elim, λn hn=>⟨hn,rfl⟩,rfl,rfl,trivial, λh=>h.elim,trivial, λ_ _=>⟨λh=>h, λh=>h, λh=>h⟩,?_⟩, λ_ _ _ _ _ h _=>by rw[eD];exact h⟩;unfold On;rw[aa (by show¬(false=true);simp)];refine Gw.mono (λown g W hl=>?_) (h.rely hr);refine At.intro (X:= λi _ own g W=>i=0∧iF P Post dead own g W) (λi Tt own g W hx=>?_) ⟨rfl,hl⟩;refine⟨hx.2.1, λ_=>hx.2.2.1, λs _ _=>?_⟩;exact(aj (c:=(quiet dead λown g W=>iF P Post dead own g W).ret Tt=true) rfl).mpr hx.2
def Oq{t u:Trace}{B:Nat}(h:TI (Ef dead B) t)(hu:∀op∈u,op.g=0)(hok:∀op∈u,∀x,op.act.touch?=some x->Hp (Ef dead B).who 0 x∧(fF x.loc->lb x.loc<B))(hr:∀op∈u,∀a,op.act≠ .mark (.release a)):TI (Ef dead B) (t++u):=
 TI.app (γ:=Ef dead B) (B':=B) h (aJ _) rfl hu hok (.inl rfl) hr
def QF.ends(hstep:∀W1,dM Z0 own W W1->∃v W2 es,stepG P true g W1=.ended (.done v) W2 es∧(∀e∈es,NY Z0 own e)∧Post v W2)(hg:g.status=.running):∀(M:Nat)(q:Nat->Nat){gs:Array Goroutine}{w:World}{sl:Option (Nat×Nat)}{t:Trace},sm gs.size q<M->
 dM Z0 own W w->(∀b,own b->b<w.heap.size∧¬dead b)->QF P dead gs w t g->(∀i g',i≠0->gs[i]?=some g'->QuitsD P (q i) (Deaf t i) g')->Ends P Post (crowd gs w sl) t:=by
 intro M
 induction M with
 |zero=>intro q gs w sl t hM;omega
 |succ M ih=>
  intro q gs w sl t hM hr ho hq hlv;have hlt:=(aI.1 hq.main).1
  have haw:∀g∈gs,awake g:=by
   intro g' hg';obtain⟨i,hi,rfl⟩:=Array.mem_iff_getElem.1 hg'
   by_cases h0:i=0
   .subst h0;have:gs[0]=g:=by simpa[aW hi]using hq.main
    rw[this];intro t ht;rw[hg]at ht;cases ht
   .rcases(hlv i _ h0 (aW hi)).status with e|e<;>intro t ht<;>rw[e]at ht<;>cases ht
  obtain⟨i,gi,d,sl',hi,hgi,hst⟩:=crowd_pick (P:=P) (w:=w) (sl:=sl) haw ⟨0,g,hq.main,hg⟩;have hrd:dM Z0 own W (w.at d):=hr.trans (Mf w d)
  by_cases h0:i=0
  .subst h0;obtain rfl:gi=g:=by rw[hq.main]at hi;exact(aT hi).symm
   obtain⟨v,W2,es,hend,hes,hpost⟩:=hstep (w.at d) hrd;have hrunT:=runT_many_ended (P:=P) (sl:=sl') (i:=0) hi (show stepG P (0==0) gi (w.at d)=_ from hend);have hs:=hst.trans hrunT
   have hti:TI (Ef dead w.heap.size) (t++MemOp.ofEvents 0 gi.frame.fn gi.frame.place es):=by
    refine Oq hq.ti (λop hop=>by obtain⟨e,_,rfl⟩:=mem_ofEvents hop;rfl) (λop hop x hx=>?_) (λop hop a=>?_)
    .obtain⟨e,he,rfl⟩:=mem_ofEvents hop;obtain⟨_,hev⟩:=hes e he;obtain⟨loc,wr,sy⟩:=e;have q0:∀l,fF l->¬dead (lb l)->(Ef dead w.heap.size).who l=.gK 0:= λl h1 h2=>by unfold Ef;simp[h1,h2]
     cases loc with
     |cell a=>
      obtain⟨hs,hor⟩:=hev;have hs:sy=false:=hs;subst hs
      have hx':x=⟨.cell a,wr,.plain⟩:=by
       have:(MemAct.ofEvent ⟨.cell a,wr,false⟩).touch?=some ⟨.cell a,wr,.plain⟩:=by cases wr<;>rfl
       rw[this]at hx;exact(aT hx).symm
      subst hx';have ho':own a.block:=hor.elim (λh=>h) λh=>h.elim (λh=>h.1.elim) λh=>h.elim
      exact⟨.inl (q0 _ trivial (ho _ ho').2), λ_=>(ho _ ho').1⟩
     |obj r=>
      obtain⟨hs,hor⟩:=hev;have hs:sy=false:=hs;subst hs
      have hx':x=⟨.obj r,wr,.plain⟩:=by
       have:(MemAct.ofEvent ⟨.obj r,wr,false⟩).touch?=some ⟨.obj r,wr,.plain⟩:=by cases wr<;>rfl
       rw[this]at hx;exact(aT hx).symm
      subst hx';exact⟨.inl (q0 _ trivial (ho _ hor).2), λ_=>(ho _ hor).1⟩
     |mark m=>
      have hm:m=.noRoom:=hev;subst hm;exfalso;have:(MemAct.ofEvent ⟨.mark .noRoom,wr,sy⟩).touch?=none:=by cases wr<;>cases sy<;>rfl
      rw[this]at hx;cases hx
     |output=>exact hev.elim
     |goroutines=>exact hev.elim
    .obtain⟨e',he,rfl⟩:=mem_ofEvents hop;obtain⟨_,hev⟩:=hes e' he;obtain⟨loc,wr,sy⟩:=e';intro e;cases loc with
     |mark m=>
      have hm:m=.noRoom:=hev;subst hm;have:MemAct.ofEvent ⟨.mark .noRoom,wr,sy⟩=.mark .noRoom:=by cases wr<;>cases sy<;>rfl
      have e:MemAct.ofEvent ⟨.mark .noRoom,wr,sy⟩=.mark (.release a):=e;rw[this]at e;cases e
     |cell _=>
      have e:MemAct.ofEvent ⟨.cell _,wr,sy⟩=.mark (.release a):=e;cases wr<;>cases sy<;>cases e
     |obj _=>
      have e:MemAct.ofEvent ⟨.obj _,wr,sy⟩=.mark (.release a):=e;cases wr<;>cases sy<;>cases e
     |output=>exact hev.elim
     |goroutines=>exact hev.elim
   refine⟨0,crowd gs w sl,.done v,W2,_,by simp only[runNT,hs],rfl,?_,v,rfl,hpost,hti.nr,handed λi op hi hg hc=>?_,⟨λx hx=>?_,rfl⟩, λj x hx hj=>?_⟩
   .simp only[step,hs]
   .rcases hti.ho i op hi hg (.inl hc)with h1|h1|⟨a0,h1,_⟩
    .exact h1.elim
    .exact h1
    .cases h1
   .obtain⟨j,hj⟩:=List.mem_iff_getElem?.1 hx;rw[List.getElem?_drop]at hj;exact⟨_,(hlv (1+j) x (by omega) (by simpa[crowd]using hj)).leaves⟩
   .have hqj:=hlv j x (by omega) hx;refine⟨q j,?_⟩
    have e:(t++MemOp.ofEvents 0 gi.frame.fn gi.frame.place es).deaf j (t++MemOp.ofEvents 0 gi.frame.fn gi.frame.place es).size=Deaf t j:=
     Deaf_other t (g:=j) (g':=0) (by omega) _ (λop hop=>by obtain⟨e,_,rfl⟩:=mem_ofEvents hop;rfl)
    rw[e];exact hqj.hears _
  .have hqi:=hlv i gi h0 hi;have hi0:(i==0)=false:=by simpa using h0
   have XW:=(aI.1 hi).1;cases hk:q i with
   |zero=>rw[hk]at hqi;rw[hqi.1]at hgi;cases hgi
   |succ k=>
    rw[hk]at hqi;rcases hqi with⟨hf,_⟩|⟨_,g',es,hm,hstp,hq'⟩
    .rw[hf]at hgi;cases hgi
    have hdec:sm gs.size (upd q i k)<sm gs.size q:=Mh XW (by rw[upd_same,hk];omega) λj _=>by
     by_cases hj:j=i
     .subst hj;rw[upd_same,hk];omega
     .rw[upd_ne hj];exact aJ _
    have hrunT:=runT_crowd_go (P:=P) (sl:=sl') (i:=i) hi (by rw[hi0];exact hstp (w.at d));have hsz:((gs.map (woken P gi g' (w.at d))).setIfInBounds i g').size=gs.size:=by simp
    have qq:∀j x,j≠0->((gs.map (woken P gi g' (w.at d))).setIfInBounds i g')[j]?=some x->QuitsD P (upd q i k j) (Deaf (t++MemOp.ofEvents i gi.frame.fn gi.frame.place es) j) x:=by
     intro j x hj hx
     by_cases hji:i=j
     .subst hji;rw[aD (by simpa using XW)]at hx;obtain rfl:=aT hx;rw[upd_same,Deaf_own];exact hq'
     .rw[au hji,aG]at hx;obtain⟨y,hy,rfl⟩:=Option.map_eq_some_iff.1 hx;have hqj:=hlv j y hj hy;rw[woken_quitsD hqj,upd_ne (Ne.symm hji),Deaf_other t hji _ (λop hop=>by obtain⟨e,_,rfl⟩:=mem_ofEvents hop;rfl)];exact hqj
    have h:=ih (upd q i k) (gs:=(gs.map (woken P gi g' (w.at d))).setIfInBounds i g') (w:=w.at d) (sl:=sl') (t:=t++MemOp.ofEvents i gi.frame.fn gi.frame.place es) (by rw[hsz];omega) hrd ho
     ⟨by
       rw[au h0,aG,hq.main];simp only[ay,Option.some.injEq];unfold woken;split
       .exact again_running _ (.inl hg)
       .rfl, λj x hj hx=>⟨_,qq j x hj hx⟩,by rw[Deaf_other t h0 _ (λop hop=>by obtain⟨e,_,rfl⟩:=mem_ofEvents hop;rfl)];exact hq.d0,by rw[hsz];exact uC hq.nums XW _ _ _,hq.cq,
       hq.ti.Kh (λop hop=>by obtain⟨e,he,rfl⟩:=mem_ofEvents hop;exact touch_mute (hm e he)) (λop hop a=>by obtain⟨e,he,rfl⟩:=mem_ofEvents hop;exact yj (hm e he) a)⟩ qq
    exact Ends.after (N:=1) (by simp only[runNT];rw[hst,hrunT]) h
def iF.ret(hstep:∀W1,dM Z0 own W W1->∃v W2 es,stepG P true g W1=.ended (.done v) W2 es∧(∀e∈es,NY Z0 own e)∧Post v W2)(hg:g.status=.running)(hoff:g.offers=none):iF P Post dead own g W:=by
 classical
 refine⟨hg,hoff, λho W1 hr gs t sl hq=>?_⟩;refine QF.ends hstep hg (_+1) (λi=>if h:∃k g',i≠0∧gs[i]?=some g'∧QuitsD P k (Deaf t i) g' then h.choose else 0) (Nat.lt_succ_self _) hr (λb hb=>⟨aK (ho b hb).1 hr.size,(ho b hb).2⟩) hq λi g' h0 hi=>?_
 obtain⟨k,hk⟩:=hq.lv i g' h0 hi;have h:∃k g',i≠0∧gs[i]?=some g'∧QuitsD P k (Deaf t i) g':=⟨k,g',h0,hi,hk⟩
 rw[dif_pos h];obtain⟨g1,_,h1,h2⟩:=h.choose_spec;rw[hi]at h1;cases h1;exact h2
def iF.start(h:iF P Post (λ_=>False) own g W)(ho:∀b,own b->b<W.heap.size):Ends P Post (solo g W) #[]:=by
 rw[solo_eq_crowd];refine h.2.2 (λb hb=>⟨ho b hb, λh=>h⟩) W (dM.refl _) #[g] #[] none ⟨rfl, λi g' hi hg=>?_,rfl, λop hop=>by simp at hop, λ_ h=>h.elim,?_⟩
 .have :=(aI.1 hg).1;simp at this;exact absurd this hi
 .have no:∀{i x},touchAt #[] i=some x->False:= λ{i x}h=>by simp[touchAt,Trace.act?]at h
  exact⟨λl g _ i x hx=>(no hx).elim, λl g _ _ i x hx=>(no hx).elim, λi x op _ hx=>(no hx).elim, λl i x _ hx=>(no hx).elim, λi x hx=>(no hx).elim, λi op hi=>by simp at hi, λsaid=>past_nil.clean said, λa i=>by simp[Trace.act?]⟩
end
end
section
structure Body(B Sb:Type) where
 fM:Option Addr
 rep:Sb->World->Prop
 J:Sb->(Nat->Prop)->World->Prop
 free:Sb->Prop
 init:Nat->Option B->Prop
 mv:Nat->B->Sb->Option B->Sb->Prop
 blk:B->Sb->Prop
 wakes:B->Bool
 kind:B->Kind
 deaf:B->Nat
 fits:Nat->B->Sb->Prop
 fin:Sb->Prop
inductive jC where
 |Ot|Kl|FM|Km|Ct|kd|w1 (b:Nat)|w2 (v:Nat)|Uf|w3|w4|ke|aq|fin
inductive nV where
 |wr|k1|d1|d2|d3|d4|qt
inductive FT(B:Type) where
 |st (pc:jC) (j:Nat)
 |bd (k:Nat) (b:B)
 |wg (k:Nat) (pc:nV)
structure pJ(Sb:Type) where
 v:Nat
 wt:Nat
 sm:Nat
 jn:Bool
 dn:Nat->Bool
 b:Sb
structure Bq(B Sb:Type) where
 body:Body B Sb
 N:Nat
 ty:TypeId
 Wg:Nat
 syn:Nat->Prop
 ro:Nat->Prop
 pt:Nat->Prop
 cl:Nat->Nat->Nat->Prop
 Dp:(Nat->Bool)->(Nat->Prop)->(Nat->Nat->Prop)->World->Prop
 Anch:(Nat->Prop)->Goroutine->World->Prop
section
variable {B Sb:Type} (C:Bq B Sb)
def jC.deaf:jC->Nat
 | .Kl| .FM| .Km| .w1 _| .w2 _| .Uf| .w3| .w4| .ke=>1
 |_=>0
def jC.kind:jC->Kind
 | .Ot| .kd=>.disable
 | .Kl| .w1 _| .w2 _| .w4=>.atomic
 | .FM| .Uf=>.said
 | .Km| .ke=>.enable
 | .w3=>.sem
 | .aq=>.join
 | .Ct| .fin=>.disable
def nV.deaf:nV->Nat
 | .wr| .k1=>0
 |_=>1
def nV.wU:nV->Bool
 | .qt=>true
 |_=>false
def nV.kind:nV->Kind
 | .wr=>.done
 | .k1=>.disable
 | .d4=>.sem
 |_=>.atomic
def fV(j:Nat):jC:=if j<C.N then .Ot else .kd
def Bq.Zs(j:Nat):fO:={ ro:=C.ro,sy:= λb=>C.syn b∨C.pt b,cl:= λb i=>∃k,j<=k∧k<C.N∧C.cl k b i }
def Bq.Zw(k:Nat):fO:={ ro:=C.ro,sy:= λb=>C.syn b∨C.pt b,cl:=C.cl k }
def Bq.Zp:fO:={ ro:=C.ro,sy:=C.syn,cl:= λ_ _=>False,mute:=True }
inductive Br:jC->Nat->pJ Sb->jC->pJ Sb->Prop
 |Ot {j s}:Br .Ot j s .Kl s
 |Kl {j s}:Br .Kl j s (if s.v=0 then .FM else .Km) { s with v:=s.v+1 }
 |FM {j s}:Br .FM j s .Km s
 |Km {j s}:Br .Km j s .Ct s
 |kd {j s}:Br .kd j s (.w1 j) s
 |w1 {b j s}:Br (.w1 b) j s (if s.v=0 then .ke else .w2 s.v) s
 |WB {j s v} (h:s.v=v):Br (.w2 v) j s .Uf { s with wt:=1 }
 |QL {j s v} (h:s.v≠v):Br (.w2 v) j s (.w1 (v-1)) s
 |Uf {j s}:Br .Uf j s .w3 s
 |w3 {j s}:Br .w3 j s .w4 { s with sm:=s.sm-1 }
 |w4 {j s}:Br .w4 j s .ke s
 |ke {j s}:Br .ke j s .aq s
 |aq {j s}:Br .aq j s .fin { s with jn:=true }
def Ou(f:Nat->Bool)(k:Nat):Nat->Bool:= λl=>if l=k then true else f l
inductive QM(k:Nat):nV->pJ Sb->nV->pJ Sb->Prop
 |wr {s}:QM k .wr s .k1 { s with dn:=Ou s.dn k }
 |k1 {s}:QM k .k1 s .d1 s
 |d1 {s}:QM k .d1 s (if s.v=1∧s.wt=1 then .d2 else .qt) { s with v:=s.v-1 }
 |d2 {s}:QM k .d2 s .d3 s
 |d3 {s}:QM k .d3 s .d4 { s with wt:=0 }
 |d4 {s}:QM k .d4 s .qt { s with sm:=s.sm+1 }
inductive Ov:Nat->FT B->pJ Sb->FT B->pJ Sb->Prop
 |st {i pc j s pc' s'} (h:Br pc j s pc' s'):Ov i (.st pc j) s (.st pc' j) s'
 |bd {i k b s b' sb'} (h:C.body.mv k b s.b (some b') sb'):Ov i (.bd k b) s (.bd k b') { s with b:=sb' }
 |wo {i k b s sb'} (h:C.body.mv k b s.b none sb'):Ov i (.bd k b) s (.wg k .wr) { s with b:=sb' }
 |wg {i k pc s pc' s'} (h:QM k pc s pc' s'):Ov i (.wg k pc) s (.wg k pc') s'
inductive Wb:FT B->pJ Sb->FT B->FT B->pJ Sb->Prop
 |bd {j s b} (h:C.body.init j (some b)):Wb (.st .Ct j) s (.st (fV C (j+1)) (j+1)) (.bd j b) s
 |wg {j s} (h:C.body.init j none):Wb (.st .Ct j) s (.st (fV C (j+1)) (j+1)) (.wg j .wr) s
def EI:FT B->pJ Sb->Prop
 | .st pc _,s=>match pc with
   | .Kl=>s.v<=C.N∧s.wt=0∧s.sm=0
   | .w1 b=>s.v<=b∧s.v<=C.N∧s.wt=0∧s.sm=0
   | .w2 v=>s.v<=v∧0<v∧s.v<=C.N∧s.wt=0∧s.sm=0
   | .w3=>s.sm<=1∧s.v<=C.N∧s.wt<=1∧(s.sm=1->s.v=0∧s.wt=0)
   | .w4| .ke=>s.v=0∧s.wt=0∧s.sm=0
   | .aq=>(∀k,k<C.N->s.dn k=true)∧C.body.fin s.b∧s.jn=false
   |_=>True
 | .bd k b,s=>C.body.fits k b s.b∧s.jn=false
 | .wg _ pc,s=>match pc with
   | .wr=>s.jn=false
   | .d1=>1<=s.v∧s.v<=C.N∧s.wt<=1∧s.sm=0
   | .d2| .d3=>s.v=0∧s.wt=1∧s.sm=0
   | .d4=>s.v=0∧s.wt=0∧s.sm=0
   |_=>True
def Bq.sys:Sys (FT B) (pJ Sb) where
 Bb:= λs W=>ConcR.WgAt C.ty C.Wg W ((s.v:Int)*ConcR.KK+s.wt) s.sm∧C.body.rep s.b W
 syn:=C.syn
 fM:= λs=>if s.jn then none else C.body.fM
 kW:= λs=>if s.jn then none else some (ConcR.stA C.Wg)
 mv:=Ov C
 sp:=Wb C
 blk:= λT s=>match T with
  | .st .w3 _=>s.sm=0
  | .bd _ b=>C.body.blk b s.b
  |_=>False
 wakes:= λT=>match T with
  | .bd _ b=>C.body.wakes b
  | .wg _ .d4=>true
  |_=>false
 kind:= λT=>match T with
  | .st pc _=>pc.kind
  | .bd _ b=>C.body.kind b
  | .wg _ pc=>pc.kind
 fork:= λT=>match T with
  | .st .Ct _=>true
  |_=>false
 ret:= λT=>match T with
  | .st .fin _=>true
  |_=>false
 quit:= λT=>match T with
  | .wg _ p=>p.wU
  |_=>false
 deaf:= λT=>match T with
  | .st pc _=>pc.deaf
  | .bd _ b=>C.body.deaf b
  | .wg _ pc=>pc.deaf
 past:= λT=>match T with
  | .wg _ .wr=>false
  | .wg _ _=>true
  |_=>false
 Z:= λ_ T=>match T with
  | .st .fin _=>Z0
  | .st _ j=>C.Zs j
  | .bd k _=>C.Zw k
  | .wg k .wr=>C.Zw k
  | .wg _ _=>C.Zp
 J:= λs=>C.body.J s.b
 Dp:= λs D Dc W=>s.jn=true∨C.Dp s.dn D Dc W
 fits:= λ_ T s=>EI C T s
 Anch:= λ_=>C.Anch
structure kF{B Sb ρ:Type}(b:Body B Sb)(N:Nat)(syn:Nat->Prop)(inv:Nat->(Nat->Option B)->Sb->Prop)(rb:(Nat->Option B)->Sb->ρ)(lt:ρ->ρ->Prop):Prop where
 wf:WellFounded lt
 spawn:∀{j ψ s o},inv j ψ s->j<N->ψ j=none->b.init j o->inv (j+1) (upd ψ j o) s
 move:∀{j ψ s k x o s'},inv j ψ s->k<j->ψ k=some x->¬b.blk x s->b.mv k x s o s'->inv j (upd ψ k o) s'∧(∀y,o=some y->lt (rb (upd ψ k o) s') (rb ψ s))
 fits:∀{j ψ s k x},inv j ψ s->k<j->ψ k=some x->b.fits k x s
 stay:∀{j ψ s k x o s'},inv j ψ s->k<j->ψ k=some x->¬b.blk x s->b.wakes x=false->b.mv k x s o s'->∀l y,l<j->l≠k->ψ l=some y->b.blk y s->b.blk y s'
 kinds:∀x,b.kind x≠ .said∧b.kind x≠ .done∧b.kind x≠ .join
 iD:∀{j ψ s k x o s'},inv j ψ s->k<j->ψ k=some x->b.mv k x s o s'->Kind.iD (b.deaf x) (b.kind x)=match o with |some y=>b.deaf y|none=>0
 plain:∀{j ψ s k x o s'},inv j ψ s->k<j->ψ k=some x->b.mv k x s o s'->(b.kind x).plain=true->(b.free s'↔b.free s)∧∀G w,b.J s G w->b.J s' G w
 pz:∀{j ψ s k x o s'},inv j ψ s->k<j->ψ k=some x->b.mv k x s o s'->b.kind x=.pz->b.free s∧¬b.free s'∧b.deaf x=0∧o≠none
 pE:∀{j ψ s k x o s'},inv j ψ s->k<j->ψ k=some x->b.mv k x s o s'->b.kind x=.pE->¬b.free s∧b.deaf x=0∧o≠none
 alive:∀{j ψ s},inv j ψ s->(∃k x,k<j∧ψ k=some x)->∃k x,k<j∧ψ k=some x∧¬b.blk x s
 finish:∀{ψ s},inv N ψ s->(∀k,k<N->ψ k=none)->b.free s∧b.fin s
 EC:∀s w d,b.rep s w->b.rep s (w.at d)
 vz:∀s w w',b.rep s w->(∀b,syn b->tV w.heap[b]? w'.heap[b]?∧∀k,w'.cell? ⟨b,k,none⟩=w.cell? ⟨b,k,none⟩)->b.rep s w'
 uA:∀s G w w',b.J s G w->(∀b,G b->w'.heap[b]?=w.heap[b]?)->b.J s G w'
 Ir:∀j x,b.init j (some x)->b.deaf x=0
structure ym:Prop where
 big:C.N<2147483647
 wg:C.syn C.Wg
 Ao:∀sb w w',C.body.rep sb w->(∀b,b≠C.Wg->w'.heap[b]?=w.heap[b]?)->C.body.rep sb w'
 cl:∀k b i,k<C.N->C.cl k b i->C.pt b
 WC:∀k l b i,C.cl k b i->C.cl l b i->k=l
 yf:∀dn D Dc w w',C.Dp dn D Dc w->(∀b,D b->w'.heap[b]?=w.heap[b]?)->(∀b i,Dc b i->w'.cell? ⟨b,i,none⟩=w.cell? ⟨b,i,none⟩)->C.Dp dn D Dc w'
end
end
section
def wV{α:Type}{f:α->Nat}{g:Nat->α}{k:Nat}{a:α}:∀{n:Nat},k<n->sm n (λi=>f (upd g k a i))+f (g k)=sm n (λi=>f (g i))+f a
 |0,h=>by omega
 |n+1,h=>by
  show sm n (λi=>f (upd g k a i))+f (upd g k a n)+f (g k)=sm n (λi=>f (g i))+f (g n)+f a
  by_cases e:k=n
  .subst e
   have:sm k (λi=>f (upd g k a i))=sm k (λi=>f (g i)):=by
    have h1:∀j,j<k->f (upd g k a j)=f (g j):= λj hj=>by rw[upd_ne (by omega)]
    exact Nat.le_antisymm (EF λj hj=>by rw[h1 j hj];exact aJ _) (EF λj hj=>by rw[h1 j hj];exact aJ _)
   rw[this,upd_same];omega
  .have :=wV (f:=f) (g:=g) (k:=k) (a:=a) (n:=n) (by omega);rw[upd_ne (Ne.symm e)];omega
def uE{f:Nat->Nat}{k:Nat}:∀{n:Nat},k<n->f k<=sm n f
 |0,h=>by omega
 |n+1,h=>by
  show f k<=sm n f+f n
  by_cases e:k=n
  .subst e;omega
  .have :=uE (f:=f) (k:=k) (n:=n) (by omega);omega
def FN{f:Nat->Nat}{n:Nat}(h:sm n f=0):∀k,k<n->f k=0:= λk hk=>by have :=uE (f:=f) hk;omega
def WE{f:Nat->Nat}:∀{n:Nat},0<sm n f->∃k,k<n∧0<f k
 |0,h=>by simp[sm]at h
 |n+1,h=>by
  have h:0<sm n f+f n:=h
  by_cases e:0<f n
  .exact⟨n,by omega,e⟩
  .obtain⟨k,h1,h2⟩:=WE (f:=f) (n:=n) (by omega);exact⟨k,by omega,h2⟩
section
variable {B Sb:Type} (C:Bq B Sb)
def pre:Option (FT B)->Nat
 |some (.bd _ _)=>1
 |some (.wg _ .wr)=>1
 |some (.wg _ .k1)=>1
 |some (.wg _ .d1)=>1
 |_=>0
def wu:Option (FT B)->Nat
 |some (.wg _ .d2)=>1
 |some (.wg _ .d3)=>1
 |_=>0
def x4:Option (FT B)->Nat
 |some (.wg _ .d4)=>1
 |_=>0
def iK:Option (FT B)->Option B
 |some (.bd _ b)=>some b
 |_=>none
def Iu:Option (FT B)->Bool
 |some (.bd _ _)=>false
 |some (.wg _ .wr)=>false
 |_=>true
def jC.pend:jC->Nat
 | .FM| .Km| .Ct=>1
 |_=>0
def jC.starts:jC->Bool
 | .Ot| .Kl| .FM| .Km| .Ct=>true
 |_=>false
def jC.ends:jC->Bool
 | .w4| .ke| .aq| .fin=>true
 |_=>false
def jC.waits:jC->Bool
 | .Uf| .w3=>true
 |_=>false
structure FI(inv:Nat->(Nat->Option B)->Sb->Prop)(n:Nat)(φ:Nat->Option (FT B))(s:pJ Sb)(pc:jC)(j:Nat)(idx:Nat->Nat)(ws:Nat->Option (FT B)):Prop where
 h0:φ 0=some (.st pc j)
 n0:0<n
 ij:∀k,k<j->0<idx k∧idx k<n
 inj:∀k l,k<j->l<j->idx k=idx l->k=l
 at':∀k,k<j->φ (idx k)=ws k
 who:∀k T,k<j->ws k=some T->(∃b,T=.bd k b)∨∃p,T=.wg k p∧p≠ .qt
 out:∀i,i≠0->(∀k,k<j->idx k≠i)->φ i=none
 cnt:s.v=sm j (λk=>pre (ws k))+pc.pend
 wz:pc.waits=false->sm j (λk=>wu (ws k))=0∧sm j (λk=>x4 (ws k))=0∧s.wt=0∧s.sm=0
 Iw:pc.waits=true->(0<s.v∧s.wt=1∧s.sm=0∧sm j (λk=>wu (ws k))=0∧sm j (λk=>x4 (ws k))=0)∨(s.v=0∧s.wt=1∧s.sm=0∧sm j (λk=>wu (ws k))=1∧sm j (λk=>x4 (ws k))=0)∨
  (s.v=0∧s.wt=0∧s.sm=0∧sm j (λk=>wu (ws k))=0∧sm j (λk=>x4 (ws k))=1)∨(s.v=0∧s.wt=0∧s.sm=1∧sm j (λk=>wu (ws k))=0∧sm j (λk=>x4 (ws k))=0)
 WG:pc.ends=true->s.v=0
 UI:∀v,pc=.w2 v->0<v∧s.v<=v
 dc:∀v,pc=.w1 v->s.v<=v
 jS:pc.starts=true->j<C.N
 jW:pc.starts=false->j=C.N
 jN:j<=C.N
 dn:∀k,k<j->s.dn k=Iu (ws k)
 Kf:∀k,j<=k->s.dn k=false
 jn:s.jn=true↔pc=.fin
 body:inv j (λk=>if k<j then iK (ws k)else none) s.b
def Iy(inv:Nat->(Nat->Option B)->Sb->Prop)(n:Nat)(φ:Nat->Option (FT B))(s:pJ Sb):Prop:=∃pc j idx ws,FI C inv n φ s pc j idx ws
def jC.rank(N _v j:Nat):jC->Nat
 | .Ot=>6*(N-j)+2*N+20
 | .Kl=>6*(N-j)+2*N+19
 | .FM=>6*(N-j)+2*N+18
 | .Km=>6*(N-j)+2*N+17
 | .Ct=>6*(N-j)+2*N+16
 | .kd=>2*N+15
 | .w1 b=>2*b+9
 | .w2 u=>2*u+8
 | .Uf=>6
 | .w3=>5
 | .w4=>4
 | .ke=>3
 | .aq=>2
 | .fin=>1
def pK:Option (FT B)->Nat
 |some (.bd _ _)=>7
 |some (.wg _ .wr)=>6
 |some (.wg _ .k1)=>5
 |some (.wg _ .d1)=>4
 |some (.wg _ .d2)=>3
 |some (.wg _ .d3)=>2
 |some (.wg _ .d4)=>1
 |_=>0
variable {C} {inv:Nat->(Nat->Option B)->Sb->Prop} {n:Nat} {φ:Nat->Option (FT B)} {s:pJ Sb} {pc:jC} {j:Nat} {idx:Nat->Nat} {ws:Nat->Option (FT B)}
theorem FI.worker(h:FI C inv n φ s pc j idx ws){i:Nat}{T:FT B}(hi:i≠0)(hφ:φ i=some T):∃k,k<j∧idx k=i∧ws k=some T:=by
 by_cases hk:∃k,k<j∧idx k=i
 .obtain⟨k,h1,h2⟩:=hk;exact⟨k,h1,h2,by rw[<-h.at' k h1,h2];exact hφ⟩
 .exfalso;have :=h.out i hi λk h1 h2=>hk ⟨k,h1,h2⟩
  rw[this]at hφ;cases hφ
theorem FI.zJ(h:FI C inv n φ s pc j idx ws){i:Nat}{p:jC}{l:Nat}(hφ:φ i=some (.st p l)):i=0∧p=pc∧l=j:=by
 by_cases hi:i=0
 .subst hi;rw[h.h0]at hφ;cases hφ;exact⟨rfl,rfl,rfl⟩
 .obtain⟨k,h1,_,h3⟩:=h.worker hi hφ;rcases h.who k _ h1 h3 with⟨b,e⟩|⟨q,e,_⟩<;>cases e
theorem FI.je(h:FI C inv n φ s pc j idx ws){i k:Nat}{b:B}(hφ:φ i=some (.bd k b)):i≠0∧k<j∧idx k=i∧ws k=some (.bd k b):=by
 by_cases hi:i=0
 .subst hi;rw[h.h0]at hφ;cases hφ
 .obtain⟨l,h1,h2,h3⟩:=h.worker hi hφ;rcases h.who l _ h1 h3 with⟨b',e⟩|⟨q,e,_⟩
  .cases e;exact⟨hi,h1,h2,h3⟩
  .cases e
theorem FI.Ow(h:FI C inv n φ s pc j idx ws){i k:Nat}{p:nV}(hφ:φ i=some (.wg k p)):i≠0∧k<j∧idx k=i∧ws k=some (.wg k p)∧p≠ .qt:=by
 by_cases hi:i=0
 .subst hi;rw[h.h0]at hφ;cases hφ
 .obtain⟨l,h1,h2,h3⟩:=h.worker hi hφ;rcases h.who l _ h1 h3 with⟨b',e⟩|⟨q,e,hq⟩
  .cases e
  .cases e;exact⟨hi,h1,h2,h3,hq⟩
theorem FI.st(h:FI C inv n φ s pc j idx ws){pc':jC}{s':pJ Sb}(hb:s'.b=s.b)(hd:s'.dn=s.dn)(cnt:s'.v=sm j (λk=>pre (ws k))+pc'.pend)
 (wz:pc'.waits=false->sm j (λk=>wu (ws k))=0∧sm j (λk=>x4 (ws k))=0∧s'.wt=0∧s'.sm=0)
 (Iw:pc'.waits=true->(0<s'.v∧s'.wt=1∧s'.sm=0∧sm j (λk=>wu (ws k))=0∧sm j (λk=>x4 (ws k))=0)∨(s'.v=0∧s'.wt=1∧s'.sm=0∧sm j (λk=>wu (ws k))=1∧sm j (λk=>x4 (ws k))=0)∨
   (s'.v=0∧s'.wt=0∧s'.sm=0∧sm j (λk=>wu (ws k))=0∧sm j (λk=>x4 (ws k))=1)∨(s'.v=0∧s'.wt=0∧s'.sm=1∧sm j (λk=>wu (ws k))=0∧sm j (λk=>x4 (ws k))=0))
 (WG:pc'.ends=true->s'.v=0) (UI:∀v,pc'=.w2 v->0<v∧s'.v<=v) (dc:∀v,pc'=.w1 v->s'.v<=v) (hst:pc'.starts=pc.starts) (jn:s'.jn=true↔pc'=.fin):FI C inv n (upd φ 0 (some (.st pc' j))) s' pc' j idx ws:=
 ⟨upd_same ..,h.n0,h.ij,h.inj, λk hk=>by rw[upd_ne (by have :=(h.ij k hk).1;omega)];exact h.at' k hk,h.who, λi hi hk=>by rw[upd_ne hi];exact h.out i hi hk,cnt,wz,Iw,WG,UI,dc, λe=>h.jS (hst ▸ e), λe=>h.jW (hst ▸ e),h.jN, λk hk=>by rw[hd];exact h.dn k hk, λk hk=>by rw[hd];exact h.Kf k hk,jn,by rw[hb];exact h.body⟩
theorem FI.uF(h:FI C inv n φ s pc j idx ws)(he:pc.ends=true){k:Nat}(hk:k<j):ws k=none:=by
 have h0:=h.WG he;have hc:=h.cnt;have hw:pc.waits=false:=by cases pc<;>simp_all[jC.ends,jC.waits]
 obtain⟨b1,b2,_,_⟩:=h.wz hw;have z1:=FN (f:= λk=>pre (ws k)) (n:=j) (by omega) k hk;have z2:=FN b1 k hk;have z3:=FN b2 k hk;cases hT:ws k with
 |none=>rfl
 |some T=>
  exfalso;simp only[hT]at z1 z2 z3;rcases h.who k T hk hT with⟨b,rfl⟩|⟨p,rfl,hp⟩
  .cases z1
  .cases p<;>simp[pre,wu,x4]at z1 z2 z3;exact hp rfl
theorem FI.Mi(h:FI C inv n φ s pc j idx ws){k:Nat}(hk:k<j){T:FT B}(hT:ws k=some T):pc.ends=false:=by
 cases he:pc.ends with
 |false=>rfl
 |true=>rw[h.uF he hk]at hT;cases hT
theorem FI.wk(h:FI C inv n φ s pc j idx ws)(hne:pc.ends=false){k:Nat}(hk:k<j){o:Option (FT B)}{s':pJ Sb}(ho:∀T,o=some T->(∃b,T=.bd k b)∨∃p,T=.wg k p∧p≠ .qt)(cnt:s'.v+pre (ws k)=s.v+pre o)(hv:s'.v<=s.v)
 (wz:pc.waits=false->wu o=wu (ws k)∧x4 o=x4 (ws k)∧s'.wt=0∧s'.sm=0)
 (Iw:pc.waits=true->∀a b:Nat,a+wu (ws k)=sm j (λk=>wu (ws k))+wu o->b+x4 (ws k)=sm j (λk=>x4 (ws k))+x4 o->
   (0<s'.v∧s'.wt=1∧s'.sm=0∧a=0∧b=0)∨(s'.v=0∧s'.wt=1∧s'.sm=0∧a=1∧b=0)∨(s'.v=0∧s'.wt=0∧s'.sm=0∧a=0∧b=1)∨(s'.v=0∧s'.wt=0∧s'.sm=1∧a=0∧b=0))
 (dnk:s'.dn k=Iu o) (vq:∀l,l≠k->s'.dn l=s.dn l) (hj:s'.jn=s.jn) (hb:inv j (upd (λk=>if k<j then iK (ws k)else none) k (iK o)) s'.b):FI C inv n (upd φ (idx k) o) s' pc j idx (upd ws k o):=by
 have e1:=wV (f:=pre) (g:=ws) (k:=k) (a:=o) hk;have e2:=wV (f:=wu) (g:=ws) (k:=k) (a:=o) hk;have e3:=wV (f:=x4) (g:=ws) (k:=k) (a:=o) hk;refine⟨by rw[upd_ne (by have :=(h.ij k hk).1;omega)];exact h.h0,h.n0,h.ij,h.inj, λl hl=>?_, λl T hl hT=>?_, λi hi hn=>?_,?_, λhp=>?_, λhp=>?_, λhp=>?_, λv e=>⟨(h.UI v e).1,aS hv (h.UI v e).2⟩, λv e=>aS hv (h.dc v e),h.jS,h.jW,h.jN, λl hl=>?_, λl hl=>by rw[vq l (by omega)];exact h.Kf l hl,by rw[hj];exact h.jn,?_⟩
 .by_cases e:l=k
  .subst e;rw[upd_same,upd_same]
  .rw[upd_ne e,upd_ne λe'=>e (h.inj l k hl hk e')];exact h.at' l hl
 .by_cases e:l=k
  .subst e;rw[upd_same]at hT;exact ho T hT
  .rw[upd_ne e]at hT;exact h.who l T hl hT
 .rw[upd_ne λe=>hn k hk e.symm];exact h.out i hi hn
 .have :=h.cnt;omega
 .obtain⟨a1,a2,a3,a4⟩:=wz hp;obtain⟨b1,b2,_,_⟩:=h.wz hp;exact⟨by omega,by omega,a3,a4⟩
 .exact Iw hp _ _ e2 e3
 .rw[hne]at hp;cases hp
 .by_cases e:l=k
  .subst e;rw[upd_same];exact dnk
  .rw[upd_ne e,vq l e];exact h.dn l hl
 .have:(λl=>if l<j then iK (upd ws k o l)else none)=upd (λk=>if k<j then iK (ws k)else none) k (iK o):=by
   funext l
   by_cases e:l=k
   .subst e;rw[upd_same,upd_same,aj hk]
   .rw[upd_ne e,upd_ne e]
  rw[this];exact hb
end
end
section
section
variable {B Sb ρ:Type} {C:Bq B Sb} {inv:Nat->(Nat->Option B)->Sb->Prop} {rb:(Nat->Option B)->Sb->ρ} {lt:ρ->ρ->Prop} {n:Nat} {φ:Nat->Option (FT B)} {s:pJ Sb} {pc:jC} {j:Nat} {idx:Nat->Nat} {ws:Nat->Option (FT B)}
open Classical in
noncomputable def XX(φ:Nat->Option (FT B))(k:Nat):Option B:=if h:∃b i,φ i=some (.bd k b)then some h.choose else none
def FI.XX(h:FI C inv n φ s pc j idx ws):XX φ= λk=>if k<j then iK (ws k)else none:=by
 funext k;unfold cS.XX
 by_cases hx:∃b i,φ i=some (FT.bd k b)
 .rw[dif_pos hx];obtain⟨i,hi⟩:=hx.choose_spec;obtain⟨_,h1,_,h3⟩:=h.je hi;rw[aj h1,h3];rfl
 .rw[dif_neg hx]
  by_cases hk:k<j
  .rw[aj hk];cases hT:ws k with
   |none=>rfl
   |some T=>
    rcases h.who k T hk hT with⟨b,rfl⟩|⟨p,rfl,_⟩
    .exact absurd ⟨b,idx k,by rw[h.at' k hk,hT]⟩ hx
    .rfl
  .rw[aa hk]
abbrev Fr(ρ:Type):=Nat×Nat×ρ
def XY(N:Nat)(s:pJ Sb):Option (FT B)->Nat
 |some (.st pc j)=>pc.rank N s.v j
 |_=>0
noncomputable def QN(C:Bq B Sb)(rb:(Nat->Option B)->Sb->ρ)(n:Nat)(φ:Nat->Option (FT B))(s:pJ Sb):Fr ρ:=(XY C.N s (φ 0),sm n (λi=>pK (φ i)),rb (cS.XX φ) s.b)
def DY(lt:ρ->ρ->Prop):Fr ρ->Fr ρ->Prop:=Prod.Lex Nat.lt (Prod.Lex Nat.lt lt)
def DY.wf(h:WellFounded lt):WellFounded (DY lt):=(Prod.lex Nat.lt_wfRel (Prod.lex Nat.lt_wfRel ⟨_,h⟩)).wf
def QO{a b:Nat}{x y:Nat×ρ}(h:a<b):DY lt (a,x) (b,y):=.left _ _ h
def WH{a b c d:Nat}{x y:ρ}(h:a<=b)(h2:c<d):DY lt (a,c,x) (b,d,y):=by
 rcases Nat.lt_or_eq_of_le h with h|rfl
 .exact .left _ _ h
 .exact .right _ (.left _ _ h2)
def ad3{a c:Nat}{x y:ρ}(h:lt x y):DY lt (a,c,x) (a,c,y):=.right _ (.right _ h)
def Ox{pc:jC}{N v v' j:Nat}(h:v'<=v):pc.rank N v' j<=pc.rank N v j:=by cases pc<;>simp[jC.rank]
def FI.jQ(h:FI C inv n φ s pc j idx ws)(hp:pc≠ .fin):s.jn=false:=by
 cases e:s.jn with
 |false=>rfl
 |true=>exact absurd (h.jn.1 e) hp
def pM{s:pJ Sb}{pc:jC}(h:s.jn=false)(hp:pc≠ .fin):s.jn=true↔pc=.fin:=⟨λe=>absurd (h.symm.trans e) (by simp), λe=>absurd e hp⟩
def UJ(h:FI C inv n φ s pc j idx ws){pc':jC}{s':pJ Sb}(vW:pc=.w3->s.sm≠0)(hm:Br pc j s pc' s'):FI C inv n (upd φ 0 (some (.st pc' j))) s' pc' j idx ws∧pc'.rank C.N s'.v j<pc.rank C.N s.v j:=by
 have hc:=h.cnt;have hN:=h.jN;cases hm with
 |Ot=>
  have hj:=h.jQ (by simp);obtain⟨a1,a2,a3,a4⟩:=h.wz rfl;exact⟨h.st rfl rfl (by simpa[jC.pend]using hc) (λ_=>⟨a1,a2,a3,a4⟩) (λe=>by cases e) (λe=>by cases e) (λv e=>by cases e) (λv e=>by cases e) rfl (pM hj (by simp)),by simp[jC.rank]⟩
 |Kl=>
  have hj:=h.jQ (by simp);obtain⟨a1,a2,a3,a4⟩:=h.wz rfl;split
  .exact⟨h.st rfl rfl (by simp[jC.pend]at hc⊢;omega) (λ_=>⟨a1,a2,a3,a4⟩) (λe=>by cases e) (λe=>by cases e) (λv e=>by cases e) (λv e=>by cases e) rfl (pM hj (by simp)),by simp[jC.rank]⟩
  .exact⟨h.st rfl rfl (by simp[jC.pend]at hc⊢;omega) (λ_=>⟨a1,a2,a3,a4⟩) (λe=>by cases e) (λe=>by cases e) (λv e=>by cases e) (λv e=>by cases e) rfl (pM hj (by simp)),by simp[jC.rank]⟩
 |FM=>
  have hj:=h.jQ (by simp);obtain⟨a1,a2,a3,a4⟩:=h.wz rfl;exact⟨h.st rfl rfl (by simpa[jC.pend]using hc) (λ_=>⟨a1,a2,a3,a4⟩) (λe=>by cases e) (λe=>by cases e) (λv e=>by cases e) (λv e=>by cases e) rfl (pM hj (by simp)),by simp[jC.rank]⟩
 |Km=>
  have hj:=h.jQ (by simp);obtain⟨a1,a2,a3,a4⟩:=h.wz rfl;exact⟨h.st rfl rfl (by simpa[jC.pend]using hc) (λ_=>⟨a1,a2,a3,a4⟩) (λe=>by cases e) (λe=>by cases e) (λv e=>by cases e) (λv e=>by cases e) rfl (pM hj (by simp)),by simp[jC.rank]⟩
 |kd=>
  have hj:=h.jQ (by simp);obtain⟨a1,a2,a3,a4⟩:=h.wz rfl
  have:sm j (λk=>pre (ws k))<=j:=by
   have:∀(m:Nat)(f:Nat->Nat),(∀k,f k<=1)->sm m f<=m:= λm f hf=>by
    induction m with
    |zero=>exact aJ _
    |succ m ih=>
     have :=hf m;show sm m f+f m<=m+1;omega
   exact this j _ λk=>by
    cases ws k with
    |none=>simp[pre]
    |some T=>
     cases T with
     |st _ _=>simp[pre]
     |bd _ _=>simp[pre]
     |wg _ p=>cases p<;>simp[pre]
  refine⟨h.st rfl rfl (by simpa[jC.pend]using hc) (λ_=>⟨a1,a2,a3,a4⟩) (λe=>by cases e) (λe=>by cases e) (λv e=>by cases e) (λv e=>by cases e;simp[jC.pend]at hc;omega) rfl (pM hj (by simp)),?_⟩;simp[jC.rank,jC.pend]at hc⊢;omega
 |w1=>
  have hj:=h.jQ (by simp);have hB:=h.dc _ rfl;obtain⟨a1,a2,a3,a4⟩:=h.wz rfl;split
  .rename_i h0;exact⟨h.st rfl rfl (by simpa[jC.pend]using hc) (λ_=>⟨a1,a2,a3,a4⟩) (λe=>by cases e) (λ_=>h0) (λv e=>by cases e) (λv e=>by cases e) rfl (pM hj (by simp)),by simp[jC.rank]⟩
  .rename_i h0;exact⟨h.st rfl rfl (by simpa[jC.pend]using hc) (λ_=>⟨a1,a2,a3,a4⟩) (λe=>by cases e) (λe=>by cases e) (λv e=>by cases e;exact⟨by omega,aJ _⟩) (λv e=>by cases e) rfl (pM hj (by simp)),by simp[jC.rank];omega⟩
 |WB hv=>
  have hj:=h.jQ (by simp);obtain⟨a1,a2,a3,a4⟩:=h.wz rfl;have h0:=(h.UI _ rfl).1;exact⟨h.st rfl rfl (by simpa[jC.pend]using hc) (λe=>by cases e) (λ_=>.inl ⟨by show 0<s.v;omega,rfl,a4,a1,a2⟩) (λe=>by cases e) (λv e=>by cases e) (λv e=>by cases e) rfl (pM hj (by simp)),by simp[jC.rank]⟩
 |QL hv=>
  have hj:=h.jQ (by simp);obtain⟨a1,a2,a3,a4⟩:=h.wz rfl;refine⟨h.st rfl rfl (by simpa[jC.pend]using hc) (λ_=>⟨a1,a2,a3,a4⟩) (λe=>by cases e) (λe=>by cases e) (λv e=>by cases e) (λv e=>by cases e;have :=(h.UI _ rfl).2;omega) rfl (pM hj (by simp)),?_⟩;have :=(h.UI _ rfl).1;simp[jC.rank];omega
 |Uf=>
  have hj:=h.jQ (by simp);exact⟨h.st rfl rfl (by simpa[jC.pend]using hc) (λe=>by cases e) (λ_=>h.Iw rfl) (λe=>by cases e) (λv e=>by cases e) (λv e=>by cases e) rfl (pM hj (by simp)),by simp[jC.rank]⟩
 |w3=>
  have hj:=h.jQ (by simp);have hb:=vW rfl;rcases h.Iw rfl with x|x|x|⟨x1,x2,x3,x4,x5⟩
  .omega
  .omega
  .omega
  .exact⟨h.st rfl rfl (by simpa[jC.pend]using hc) (λ_=>⟨x4,x5,x2,by simp[x3]⟩) (λe=>by cases e) (λ_=>x1) (λv e=>by cases e) (λv e=>by cases e) rfl (pM hj (by simp)),by simp[jC.rank]⟩
 |w4=>
  have hj:=h.jQ (by simp);obtain⟨a1,a2,a3,a4⟩:=h.wz rfl;exact⟨h.st rfl rfl (by simpa[jC.pend]using hc) (λ_=>⟨a1,a2,a3,a4⟩) (λe=>by cases e) (λ_=>h.WG rfl) (λv e=>by cases e) (λv e=>by cases e) rfl (pM hj (by simp)),by simp[jC.rank]⟩
 |ke=>
  have hj:=h.jQ (by simp);obtain⟨a1,a2,a3,a4⟩:=h.wz rfl;exact⟨h.st rfl rfl (by simpa[jC.pend]using hc) (λ_=>⟨a1,a2,a3,a4⟩) (λe=>by cases e) (λ_=>h.WG rfl) (λv e=>by cases e) (λv e=>by cases e) rfl (pM hj (by simp)),by simp[jC.rank]⟩
 |aq=>
  have hj:=h.jQ (by simp);obtain⟨a1,a2,a3,a4⟩:=h.wz rfl;exact⟨h.st rfl rfl (by simpa[jC.pend]using hc) (λ_=>⟨a1,a2,a3,a4⟩) (λe=>by cases e) (λ_=>h.WG rfl) (λv e=>by cases e) (λv e=>by cases e) rfl ⟨λ_=>rfl, λ_=>rfl⟩,by simp[jC.rank]⟩
end
end
section
section
variable {B Sb ρ:Type} {C:Bq B Sb} {inv:Nat->(Nat->Option B)->Sb->Prop} {rb:(Nat->Option B)->Sb->ρ} {lt:ρ->ρ->Prop} {n:Nat} {φ:Nat->Option (FT B)} {s:pJ Sb} {pc:jC} {j:Nat} {idx:Nat->Nat} {ws:Nat->Option (FT B)}
def nV.n23:nV->Nat
 | .d2| .d3=>1
 |_=>0
def nV.n4:nV->Nat
 | .d4=>1
 |_=>0
def nV.UK:nV->Nat
 | .wr| .k1| .d1=>1
 |_=>0
def sN(k:Nat)(p:nV):wu (some (.wg k p):Option (FT B))=p.n23:=by cases p<;>rfl
def yo(k:Nat)(p:nV):x4 (some (.wg k p):Option (FT B))=p.n4:=by cases p<;>rfl
def FP(k:Nat)(p:nV):pre (some (.wg k p):Option (FT B))=p.UK:=by cases p<;>rfl
def pO:wu (none:Option (FT B))=0:=rfl
def sO:x4 (none:Option (FT B))=0:=rfl
def pre_none:pre (none:Option (FT B))=0:=rfl
def FI.Cu(h:FI C inv n φ s pc j idx ws){k:Nat}(hk:k<j){o:Option (FT B)}(e1:iK (ws k)=none)(e2:iK o=none):inv j (upd (λk=>if k<j then iK (ws k)else none) k (iK o)) s.b:=by
 have:upd (λk=>if k<j then iK (ws k)else none) k (iK o)= λk=>if k<j then iK (ws k)else none:=by
  funext l
  by_cases e:l=k
  .subst e;rw[upd_same,aj hk,e1,e2]
  .rw[upd_ne e]
 rw[this];exact h.body
def UL(h:FI C inv n φ s pc j idx ws){k:Nat}(hk:k<j){p p':nV}(hw:ws k=some (.wg k p)){s':pJ Sb}(hm:QM k p s p' s'):
 (∃o,o=(if p'.wU then none else some (FT.wg k p'))∧FI C inv n (upd φ (idx k) o) s' pc j idx (upd ws k o)∧pK o<pK (ws k))∧s'.v<=s.v:=by
 have hne:=h.Mi hk hw;have hc:=h.cnt;have p1:=uE (f:= λk=>pre (ws k)) hk;have p2:=uE (f:= λk=>wu (ws k)) hk;have p3:=uE (f:= λk=>x4 (ws k)) hk;simp only[hw,FP,sN,yo]at p1 p2 p3;have Oo:=h.dn k hk;rw[hw]at Oo;cases hm with
 |wr=>
  refine⟨⟨some (.wg k .k1),by simp[nV.wU],h.wk hne hk (λT e=>by cases e;exact .inr ⟨_,rfl,by simp⟩) (by rw[hw];rfl) (aJ _) (λe=>?_) (λe a b ea eb=>?_) ?_ (λl hl=>?_) rfl (h.Cu hk (by rw[hw];rfl) rfl),by rw[hw];simp[pK]⟩,aJ _⟩
  .obtain⟨_,_,a3,a4⟩:=h.wz e;rw[hw];exact⟨rfl,rfl,a3,a4⟩
  .rw[hw]at ea eb;simp only[sN,yo,pO,sO,nV.n23,nV.n4,aH]at ea eb;rw[ea,eb];exact h.Iw e
  .simp[Ou,Iu]
  .simp[Ou,hl]
 |k1=>
  refine⟨⟨some (.wg k .d1),by simp[nV.wU],h.wk hne hk (λT e=>by cases e;exact .inr ⟨_,rfl,by simp⟩) (by rw[hw];rfl) (aJ _) (λe=>?_) (λe a b ea eb=>?_) Oo (λl hl=>rfl) rfl (h.Cu hk (by rw[hw];rfl) rfl),by rw[hw];simp[pK]⟩,aJ _⟩
  .obtain⟨_,_,a3,a4⟩:=h.wz e;rw[hw];exact⟨rfl,rfl,a3,a4⟩
  .rw[hw]at ea eb;simp only[sN,yo,pO,sO,nV.n23,nV.n4,aH]at ea eb;rw[ea,eb];exact h.Iw e
 |d1=>
  have p1:1<=sm j (λk=>pre (ws k)):=p1
  by_cases hx:s.v=1∧s.wt=1
  .rw[aj hx];refine⟨⟨some (.wg k .d2),by simp[nV.wU],h.wk hne hk (λT e=>by cases e;exact .inr ⟨_,rfl,by simp⟩) (by rw[hw];simp only[FP,pre_none,nV.UK];omega) (by simp) (λe=>?_) (λe a b ea eb=>?_) Oo (λl hl=>rfl) rfl (h.Cu hk (by rw[hw];rfl) rfl),by rw[hw];simp[pK]⟩,by simp⟩
   .obtain⟨_,_,a3,a4⟩:=h.wz e;omega
   .rw[hw]at ea eb;simp only[sN,yo,pO,sO,nV.n23,nV.n4,aH]at ea eb
    refine .inr (.inl ?_);rcases h.Iw e with x|x|x|x
    .exact⟨by show s.v-1=0;omega,x.2.1,x.2.2.1,by omega,by omega⟩
    all_goals omega
  .rw[aa hx];refine⟨⟨none,by simp[nV.wU],h.wk hne hk (λT e=>by cases e) (by rw[hw];simp only[FP,pre_none,nV.UK];omega) (by simp) (λe=>?_) (λe a b ea eb=>?_) Oo (λl hl=>rfl) rfl (h.Cu hk (by rw[hw];rfl) rfl),by rw[hw];simp[pK]⟩,by simp⟩
   .obtain⟨_,_,a3,a4⟩:=h.wz e;rw[hw];exact⟨rfl,rfl,a3,a4⟩
   .rw[hw]at ea eb;simp only[sN,yo,pO,sO,nV.n23,nV.n4,aH]at ea eb
    refine .inl ?_
    rcases h.Iw e with x|x|x|x
    .exact⟨by show 0<s.v-1;omega,x.2.1,x.2.2.1,by omega,by omega⟩
    all_goals omega
 |d2=>
  refine⟨⟨some (.wg k .d3),by simp[nV.wU],h.wk hne hk (λT e=>by cases e;exact .inr ⟨_,rfl,by simp⟩) (by rw[hw];rfl) (aJ _) (λe=>?_) (λe a b ea eb=>?_) Oo (λl hl=>rfl) rfl (h.Cu hk (by rw[hw];rfl) rfl),by rw[hw];simp[pK]⟩,aJ _⟩
  .obtain⟨_,_,a3,a4⟩:=h.wz e;rw[hw];exact⟨rfl,rfl,a3,a4⟩
  .rw[hw]at ea eb;simp only[sN,yo,pO,sO,nV.n23,nV.n4,aH]at ea eb;rw[Nat.add_right_cancel ea,eb];exact h.Iw e
 |d3=>
  have p2:1<=sm j (λk=>wu (ws k)):=p2;refine⟨⟨some (.wg k .d4),by simp[nV.wU],h.wk hne hk (λT e=>by cases e;exact .inr ⟨_,rfl,by simp⟩) (by rw[hw];rfl) (aJ _) (λe=>?_) (λe a b ea eb=>?_) Oo (λl hl=>rfl) rfl (h.Cu hk (by rw[hw];rfl) rfl),by rw[hw];simp[pK]⟩,aJ _⟩
  .obtain⟨a1,_,a3,a4⟩:=h.wz e;omega
  .rw[hw]at ea eb;simp only[sN,yo,pO,sO,nV.n23,nV.n4,aH]at ea eb
   refine .inr (.inr (.inl ?_));rcases h.Iw e with x|x|x|x
   .omega
   .exact⟨x.1,rfl,x.2.2.1,by omega,by omega⟩
   all_goals omega
 |d4=>
  have p3:1<=sm j (λk=>x4 (ws k)):=p3;refine⟨⟨none,by simp[nV.wU],h.wk hne hk (λT e=>by cases e) (by rw[hw];rfl) (aJ _) (λe=>?_) (λe a b ea eb=>?_) Oo (λl hl=>rfl) rfl (h.Cu hk (by rw[hw];rfl) rfl),by rw[hw];simp[pK]⟩,aJ _⟩
  .obtain⟨_,a2,a3,a4⟩:=h.wz e;omega
  .rw[hw]at ea eb;simp only[sN,yo,pO,sO,nV.n23,nV.n4,aH]at ea eb
   refine .inr (.inr (.inr ?_));rcases h.Iw e with x|x|x|x
   .omega
   .omega
   .exact⟨x.1,x.2.1,by show s.sm+1=1;omega,by omega,by omega⟩
   .omega
def Mj{N:Nat}{syn:Nat->Prop}(ok:kF C.body N syn inv rb lt)(h:FI C inv n φ s pc j idx ws){k:Nat}(hk:k<j){b:B}(hw:ws k=some (.bd k b))(vW:¬C.body.blk b s.b){o:Option B}{sb':Sb}(hm:C.body.mv k b s.b o sb')
 {T:FT B} (hT:T=match o with |some b'=>.bd k b'|none=>.wg k .wr):FI C inv n (upd φ (idx k) (some T)) { s with b:=sb' } pc j idx (upd ws k (some T))∧(∀b',o=some b'->lt (rb (upd (λk=>if k<j then iK (ws k)else none) k o) sb') (rb (λk=>if k<j then iK (ws k)else none) s.b)):=by
 have hne:=h.Mi hk hw
 have D5:(λk=>if k<j then iK (ws k)else none) k=some b:=by show(if k<j then iK (ws k)else none)=some b;rw[aj hk,hw];rfl
 obtain⟨h1,h2⟩:=ok.move h.body hk D5 vW hm;have Oo:=h.dn k hk;rw[hw]at Oo;have hbp:iK (some T)=o:=by cases o<;>(subst hT;rfl)
 have hpre:pre (some T)=1:=by cases o<;>(subst hT;rfl)
 have hx:wu (some T)=0:=by cases o<;>(subst hT;rfl)
 have hx':x4 (some T)=0:=by cases o<;>(subst hT;rfl)
 have hs:Iu (some T)=false:=by cases o<;>(subst hT;rfl)
 refine⟨h.wk hne hk (λT' e=>?_) (by rw[hw,hpre];rfl) (aJ _) (λe=>?_) (λe a c ea eb=>?_) (by rw[hs];exact Oo) (λl hl=>rfl) rfl (by rw[hbp];exact h1),h2⟩
 .cases e;cases o
  .exact .inr ⟨.wr,hT,by simp⟩
  .exact .inl ⟨_,hT⟩
 .obtain⟨_,_,a3,a4⟩:=h.wz e;rw[hw,hx,hx'];exact⟨rfl,rfl,a3,a4⟩
 .rw[hw,hx]at ea;rw[hw,hx']at eb;simp only[show wu (some (FT.bd k b))=0 from rfl,show x4 (some (FT.bd k b))=0 from rfl,aH]at ea eb;rw[ea,eb];exact h.Iw e
def Mk{N:Nat}{syn:Nat->Prop}(ok:kF C.body N syn inv rb lt)(hN:N=C.N)(h:FI C inv n φ s .Ct j idx ws){o:Option B}(ho:C.body.init j o){T:FT B}(hT:T=match o with |some b'=>.bd j b'|none=>.wg j .wr):
 FI C inv (n+1) (upd (upd φ 0 (some (.st (fV C (j+1)) (j+1)))) n (some T)) s (fV C (j+1)) (j+1) (upd idx j n) (upd ws j (some T)):=by
 have hjN:j<C.N:=h.jS rfl;have hn0:=h.n0;have hc:=h.cnt;obtain⟨a1,a2,a3,a4⟩:=h.wz rfl;have hbp:iK (some T)=o:=by cases o<;>(subst hT;rfl)
 have hpre:pre (some T)=1:=by cases o<;>(subst hT;rfl)
 have hx:wu (some T)=0:=by cases o<;>(subst hT;rfl)
 have hx':x4 (some T)=0:=by cases o<;>(subst hT;rfl)
 have hs:Iu (some T)=false:=by cases o<;>(subst hT;rfl)
 have same:∀f:Option (FT B)->Nat,sm j (λk=>f (upd ws j (some T) k))=sm j (λk=>f (ws k)):= λf=>by
  have h1:∀k,k<j->f (upd ws j (some T) k)=f (ws k):= λk hk=>by rw[upd_ne (by omega)]
  exact Nat.le_antisymm (EF λk hk=>by rw[h1 k hk];exact aJ _) (EF λk hk=>by rw[h1 k hk];exact aJ _)
 have plus:∀f:Option (FT B)->Nat,sm (j+1) (λk=>f (upd ws j (some T) k))=sm j (λk=>f (ws k))+f (some T):= λf=>by show sm j (λk=>f (upd ws j (some T) k))+f (upd ws j (some T) j)=_;rw[same,upd_same]
 have hnp:(fV C (j+1)).pend=0∧(fV C (j+1)).waits=false∧(fV C (j+1)).ends=false∧fV C (j+1)≠ .fin∧(∀v,fV C (j+1)≠ .w2 v)∧(∀v,fV C (j+1)≠ .w1 v)∧((fV C (j+1)).starts=true↔j+1<C.N):=by
  unfold fV;split
  .rename_i h1;exact⟨rfl,rfl,rfl,by simp,by simp,by simp,⟨λ_=>h1, λ_=>rfl⟩⟩
  .rename_i h1;exact⟨rfl,rfl,rfl,by simp,by simp,by simp,⟨λe=>(by cases e), λe=>absurd e h1⟩⟩
 obtain⟨q1,q2,q3,q4,q5,q7,q6⟩:=hnp;have XZ:∀k,k<j->upd idx j n k=idx k:= λk hk=>upd_ne (by omega)
 refine⟨by rw[upd_ne (by omega),upd_same],by omega, λk hk=>?_, λk l hk hl e=>?_, λk hk=>?_, λk T' hk hT'=>?_, λi hi hk=>?_,?_, λ_=>⟨by rw[plus,hx];exact a1,by rw[plus,hx'];exact a2,a3,a4⟩,(λe=>by rw[q2]at e;cases e),(λe=>by rw[q3]at e;cases e), λv e=>absurd e (q5 v), λv e=>absurd e (q7 v), λe=>q6.1 e, λe=>?_,by omega, λk hk=>?_, λk hk=>h.Kf k (by omega),pM (h.jQ (by simp)) q4,?_⟩
 .by_cases e:k=j
  .subst e;rw[upd_same];omega
  .rw[XZ k (by omega)];have :=h.ij k (by omega);omega
 .by_cases ek:k=j
  .by_cases el:l=j
   .omega
   .exfalso;subst ek;rw[upd_same,XZ l (by omega)]at e;have :=h.ij l (by omega);omega
  .by_cases el:l=j
   .exfalso;subst el;rw[upd_same,XZ k (by omega)]at e;have :=h.ij k (by omega);omega
   .rw[XZ k (by omega),XZ l (by omega)]at e;exact h.inj k l (by omega) (by omega) e
 .by_cases e:k=j
  .subst e;rw[upd_same,upd_same,upd_same]
  .have :=h.ij k (by omega);rw[XZ k (by omega),upd_ne (by omega),upd_ne (by omega),upd_ne e];exact h.at' k (by omega)
 .by_cases e:k=j
  .subst e;rw[upd_same]at hT';cases hT';cases o
   .exact .inr ⟨.wr,hT,by simp⟩
   .exact .inl ⟨_,hT⟩
  .rw[upd_ne e]at hT';exact h.who k T' (by omega) hT'
 .have hin:i≠n:= λe=>hk j (by omega) (by rw[upd_same];exact e.symm)
  rw[upd_ne hin,upd_ne hi];exact h.out i hi λk hk' e=>hk k (by omega) (by rw[XZ k hk'];exact e)
 .rw[plus,hpre,q1,hc];simp[jC.pend]
 .have:¬j+1<C.N:= λx=>by rw[q6.2 x]at e;cases e
  omega
 .by_cases e:k=j
  .subst e;rw[upd_same,hs];exact h.Kf k (aJ _)
  .rw[upd_ne e];exact h.dn k (by omega)
 .have e1:(λk=>if k<j+1 then iK (upd ws j (some T) k)else none)=upd (λk=>if k<j then iK (ws k)else none) j o:=by
   funext k
   by_cases e:k=j
   .subst e;rw[upd_same,upd_same,aj (by omega),hbp]
   .rw[upd_ne e,upd_ne e]
    by_cases hk:k<j
    .rw[aj (by omega),aj hk]
    .rw[aa (by omega),aa hk]
  rw[e1];exact ok.spawn h.body (by omega) (aa (by omega)) ho
end
end
section
def Cv{w w':World}{b:Nat}{c:Array Value}{e:TypeId}{fr:Nat×Nat}(h:w.heap[b]?=some (.cells c e fr))(hs:tV w.heap[b]? w'.heap[b]?)(hc:∀k,w'.cell? ⟨b,k,none⟩=w.cell? ⟨b,k,none⟩):w'.heap[b]?=some (.cells c e fr):=by obtain⟨c',h1,h2,_⟩:=hs c e fr h;rw[h1];congr 2;apply Array.ext_getElem?;intro i;have :=hc i;unfold World.cell? at this;rw[h,h1]at this;simpa using this
section
variable {B Sb ρ:Type} {C:Bq B Sb} {inv:Nat->(Nat->Option B)->Sb->Prop} {rb:(Nat->Option B)->Sb->ρ} {lt:ρ->ρ->Prop} {n:Nat} {φ:Nat->Option (FT B)} {s:pJ Sb} {pc:jC} {j:Nat} {idx:Nat->Nat} {ws:Nat->Option (FT B)}
def X0(o:Option (FT B)):pre o<=1:=by
 cases o with
 |none=>simp[pre]
 |some T=>
  cases T with
  |st _ _=>simp[pre]
  |bd _ _=>simp[pre]
  |wg _ p=>cases p<;>simp[pre]
def Iz{f:Nat->Nat}(h:∀k,f k<=1):∀m,sm m f<=m
 |0=>aJ _
 |m+1=>by have h1:=Iz h m;have h2:=h m;show sm m f+f m<=m+1;omega
def FI.yq(h:FI C inv n φ s pc j idx ws):s.v<=C.N:=by
 have hc:=h.cnt;have h1:sm j (λk=>pre (ws k))<=j:=Iz (λk=>X0 _) j;have h2:=h.jN
 by_cases hp:pc.pend=0
 .omega
 .have:pc.starts=true∧pc.pend=1:=by cases pc<;>simp_all[jC.pend,jC.starts]
  have :=h.jS this.1;omega
def nQ(C:Bq B Sb)(s:pJ Sb):Prop:=s.jn=false∧C.body.free s.b
def FI.fits{syn:Nat->Prop}(ok:kF C.body C.N syn inv rb lt)(h:FI C inv n φ s pc j idx ws){i:Nat}{T:FT B}(hφ:φ i=some T):EI C T s:=by
 cases T with
 |st p l=>
  obtain⟨rfl,rfl,rfl⟩:=h.zJ hφ;have hv:=h.yq;cases p with
  |Kl=>obtain⟨_,_,a3,a4⟩:=h.wz rfl;exact⟨hv,a3,a4⟩
  |w1 b=>obtain⟨_,_,a3,a4⟩:=h.wz rfl;exact⟨h.dc _ rfl,hv,a3,a4⟩
  |w2 v=>obtain⟨_,_,a3,a4⟩:=h.wz rfl;exact⟨(h.UI _ rfl).2,(h.UI _ rfl).1,hv,a3,a4⟩
  |w3=>
   rcases h.Iw rfl with x|x|x|x
   all_goals exact⟨by omega,hv,by omega, λe=>⟨by omega,by omega⟩⟩
  |w4=>obtain⟨_,_,a3,a4⟩:=h.wz rfl;exact⟨h.WG rfl,a3,a4⟩
  |ke=>obtain⟨_,_,a3,a4⟩:=h.wz rfl;exact⟨h.WG rfl,a3,a4⟩
  |aq=>
   have hj:=h.jW rfl;refine⟨λk hk=>?_,?_,h.jQ (by simp)⟩
   .rw[h.dn k (by omega),h.uF rfl (by omega)];rfl
   .have hb:=h.body;rw[hj]at hb
    exact(ok.finish hb λk hk=>by show(if k<C.N then iK (ws k)else none)=none;rw[aj hk,h.uF rfl (by omega)];rfl).2
  |_=>trivial
 |bd k b=>
  obtain⟨_,hk,_,hw⟩:=h.je hφ;exact⟨ok.fits h.body hk (by show(if k<j then iK (ws k)else none)=some b;rw[aj hk,hw];rfl),h.jQ λe=>by rw[h.uF (by rw[e];rfl) hk]at hw;cases hw⟩
 |wg k p=>
  obtain⟨_,hk,_,hw,hp⟩:=h.Ow hφ;have hc:=h.cnt;have p1:=uE (f:= λk=>pre (ws k)) hk;have p2:=uE (f:= λk=>wu (ws k)) hk;have p3:=uE (f:= λk=>x4 (ws k)) hk;simp only[hw,FP,sN,yo]at p1 p2 p3;have hv:=h.yq
  have both:(sm j (λk=>wu (ws k))=0∧sm j (λk=>x4 (ws k))=0∧s.wt=0∧s.sm=0)∨((0<s.v∧s.wt=1∧s.sm=0∧sm j (λk=>wu (ws k))=0∧sm j (λk=>x4 (ws k))=0)∨(s.v=0∧s.wt=1∧s.sm=0∧sm j (λk=>wu (ws k))=1∧sm j (λk=>x4 (ws k))=0)∨
   (s.v=0∧s.wt=0∧s.sm=0∧sm j (λk=>wu (ws k))=0∧sm j (λk=>x4 (ws k))=1)∨(s.v=0∧s.wt=0∧s.sm=1∧sm j (λk=>wu (ws k))=0∧sm j (λk=>x4 (ws k))=0)):=by
   cases e:pc.waits with
   |false=>exact .inl (h.wz e)
   |true=>exact .inr (h.Iw e)
  generalize sm j (λk=>wu (ws k))=X at both p2;generalize sm j (λk=>x4 (ws k))=Y at both p3;generalize sm j (λk=>pre (ws k))=Z at hc p1;cases p<;>simp only[nV.UK,nV.n23,nV.n4]at p1 p2 p3
  case wr=>exact h.jQ λe=>by rw[h.uF (by rw[e];rfl) hk]at hw;cases hw
  case d1=>exact⟨by omega,hv,by omega,by omega⟩
  case d2=>exact⟨by omega,by omega,by omega⟩
  case d3=>exact⟨by omega,by omega,by omega⟩
  case d4=>exact⟨by omega,by omega,by omega⟩
  all_goals trivial
def X7{a a' c c':Nat}{x y:ρ}(e1:a=a')(e2:c=c')(h:lt x y):DY lt (a,c,x) (a',c',y):=by subst e1 e2;exact ad3 h
def UM(h:FI C inv n φ s pc j idx ws){k:Nat}(hk:k<j){s':pJ Sb}{o:Option (FT B)}(h':FI C inv n (upd φ (idx k) o) s' pc j idx (upd ws k o)):cS.XX (upd φ (idx k) o)=upd (λk=>if k<j then iK (ws k)else none) k (iK o):=by
 rw[h'.XX];funext l
 by_cases e:l=k
 .subst e;rw[upd_same,upd_same,aj hk]
 .rw[upd_ne e,upd_ne e]
def Ya{syn:Nat->Prop}(ok:kF C.body C.N syn inv rb lt)(h:Iy C inv n φ s){i:Nat}{T T':FT B}{s':pJ Sb}(hi:i<n)(hφ:φ i=some T)(vW:¬C.sys.blk T s)(hm:Ov C i T s T' s'):
 Iy C inv n (upd φ i (if C.sys.quit T' then none else some T')) s'∧DY lt (QN C rb n (upd φ i (if C.sys.quit T' then none else some T')) s') (QN C rb n φ s):=by
 obtain⟨pc,j,idx,ws,h⟩:=h;cases hm with
 | @st p l s p' s' hm=>
   obtain⟨rfl,rfl,rfl⟩:=h.zJ hφ;obtain⟨h',hr⟩:=UJ h (λe hs=>vW (by subst e;exact hs)) hm;refine⟨⟨p',l,idx,ws,h'⟩,?_⟩;unfold QN;refine QO ?_
   have e:(upd φ 0 (if C.sys.quit (.st p' l)=true then none else some (FT.st p' l))) 0=some (FT.st p' l):=by rw[upd_same];rfl
   rw[e,h.h0];exact hr
 | @bd k b s b' sb' hm=>
   obtain⟨h0,hk,hx,hw⟩:=h.je hφ;obtain⟨h',hr⟩:=Mj ok h hk hw vW hm (T:=.bd k b') rfl;have hq:(if C.sys.quit (FT.bd k b')=true then none else some (FT.bd k b'))=some (FT.bd k b'):=rfl;rw[hq, <-hx];refine⟨⟨pc,j,idx,_,h'⟩,?_⟩;unfold QN;have hx0:(0:Nat)≠idx k:=by rw[hx];exact Ne.symm h0
   refine X7 ?_ ?_ ?_
   .rw[upd_ne hx0,h.h0];rfl
   .have :=wV (f:=pK) (g:=φ) (k:=idx k) (a:=some (FT.bd k b')) (n:=n) (by rw[hx];exact hi);rw[hx,hφ]at this;rw[hx];exact Nat.add_right_cancel this
   .rw[UM h hk h',h.XX];exact hr b' rfl
 | @wo k b s sb' hm=>
   obtain⟨h0,hk,hx,hw⟩:=h.je hφ;obtain⟨h',hr⟩:=Mj ok h hk hw vW hm (T:=.wg k .wr) rfl;have hq:(if C.sys.quit (FT.wg k .wr:FT B)=true then none else some (FT.wg k .wr))=some (FT.wg k .wr:FT B):=rfl;rw[hq, <-hx];refine⟨⟨pc,j,idx,_,h'⟩,?_⟩;unfold QN;have hx0:(0:Nat)≠idx k:=by rw[hx];exact Ne.symm h0
   refine WH ?_ ?_
   .rw[upd_ne hx0,h.h0];exact aJ _
   .have :=wV (f:=pK) (g:=φ) (k:=idx k) (a:=some (FT.wg k .wr)) (n:=n) (by rw[hx];exact hi);rw[hx,hφ]at this;rw[hx];have this:sm n (λi_1=>pK (upd φ i (some (FT.wg k nV.wr)) i_1))+7=sm n (λi=>pK (φ i))+6:=this;omega
 | @wg k p s p' s' hm=>
   obtain⟨h0,hk,hx,hw,_⟩:=h.Ow hφ;obtain⟨⟨o,ho,h',hr⟩,hv⟩:=UL h hk hw hm;have hq:(if C.sys.quit (FT.wg k p')=true then none else some (FT.wg k p'))=o:=ho.symm;rw[hq, <-hx];refine⟨⟨pc,j,idx,_,h'⟩,?_⟩;unfold QN;have hx0:(0:Nat)≠idx k:=by rw[hx];exact Ne.symm h0
   refine WH ?_ ?_
   .rw[upd_ne hx0,h.h0];exact Ox hv
   .have :=wV (f:=pK) (g:=φ) (k:=idx k) (a:=o) (n:=n) (by rw[hx];exact hi);rw[hx,hφ]at this;rw[hw]at hr;rw[hx];omega
end
end
section
section
variable {B Sb ρ:Type} {C:Bq B Sb} {inv:Nat->(Nat->Option B)->Sb->Prop} {rb:(Nat->Option B)->Sb->ρ} {lt:ρ->ρ->Prop} {n:Nat} {φ:Nat->Option (FT B)} {s:pJ Sb} {pc:jC} {j:Nat} {idx:Nat->Nat} {ws:Nat->Option (FT B)}
def UN{syn:Nat->Prop}(ok:kF C.body C.N syn inv rb lt)(h:Iy C inv n φ s){T T' Tc:FT B}{s':pJ Sb}(hφ:φ 0=some T)(hm:Wb C T s T' Tc s'):
 Iy C inv (n+1) (upd (upd φ 0 (some T')) n (some Tc)) s'∧DY lt (QN C rb (n+1) (upd (upd φ 0 (some T')) n (some Tc)) s') (QN C rb n φ s):=by
 obtain⟨pc,j,idx,ws,h⟩:=h;have hn0:=h.n0
 have key:∀{l:Nat},l<C.N->(fV C (l+1)).rank C.N s.v (l+1)<jC.Ct.rank C.N s.v l:= λ{l}hl=>by unfold fV;split<;>(simp[jC.rank];omega)
 have e0:∀{X:Option (FT B)},upd (upd φ 0 X) n (some Tc) 0=X:= λ{X}=>by rw[upd_ne (by omega),upd_same]
 cases hm with
 | @bd l _ b ho=>
   obtain⟨_,rfl,rfl⟩:=h.zJ hφ;refine⟨⟨_,_,_,_,Mk ok rfl h ho (T:=.bd l b) rfl⟩,?_⟩;unfold QN;refine QO ?_
   rw[e0,h.h0];exact key (h.jS rfl)
 | @wg l _ ho=>
   obtain⟨_,rfl,rfl⟩:=h.zJ hφ;refine⟨⟨_,_,_,_,Mk ok rfl h ho (T:=.wg l .wr) rfl⟩,?_⟩;unfold QN;refine QO ?_
   rw[e0,h.h0];exact key (h.jS rfl)
def ad4(j:Nat):C.sys.Z 0 (.st (fV C j) j)=C.Zs j:=by unfold fV;split<;>rfl
def Oy(j:Nat):C.sys.deaf (.st (fV C j) j)=0:=by unfold fV;split<;>rfl
def QS(hC:ym C){syn:Nat->Prop}(ok:kF C.body C.N syn inv rb lt)(h:Iy C inv n φ s){T T' Tc:FT B}{s':pJ Sb}(hφ:φ 0=some T)(hm:Wb C T s T' Tc s'):
 Same C.sys (nQ C) s s'∧C.sys.kW s≠none∧C.sys.deaf T=0∧C.sys.deaf T'=0∧C.sys.deaf Tc=0∧C.sys.past Tc=false∧C.sys.quit T'=false∧C.sys.quit Tc=false∧
 (∀b,(C.sys.Z 0 T').ro b->(C.sys.Z 0 T).ro b)∧(∀b,(C.sys.Z 0 T').sy b->(C.sys.Z 0 T).sy b)∧(∀b,(C.sys.Z n Tc).ro b->(C.sys.Z 0 T).ro b)∧(∀b,(C.sys.Z n Tc).sy b->(C.sys.Z 0 T).sy b)∧
 (∀b k,(C.sys.Z 0 T').cl b k->(C.sys.Z 0 T').sy b∧(C.sys.Z 0 T).cl b k)∧(∀b k,(C.sys.Z n Tc).cl b k->(C.sys.Z n Tc).sy b∧(C.sys.Z 0 T).cl b k∧¬(C.sys.Z 0 T').cl b k):=by
 obtain⟨pc,j,idx,ws,h⟩:=h
 have main:∀{l:Nat}{Tc:FT B},l<C.N->s.jn=false->C.sys.deaf Tc=0->C.sys.past Tc=false->C.sys.quit Tc=false->C.sys.Z n Tc=C.Zw l->
  Same C.sys (nQ C) s s∧C.sys.kW s≠none∧C.sys.deaf (.st .Ct l)=0∧C.sys.deaf (.st (fV C (l+1)) (l+1))=0∧C.sys.deaf Tc=0∧C.sys.past Tc=false∧C.sys.quit (.st (fV C (l+1)) (l+1))=false∧C.sys.quit Tc=false∧
  (∀b,(C.sys.Z 0 (.st (fV C (l+1)) (l+1))).ro b->(C.sys.Z 0 (.st .Ct l)).ro b)∧(∀b,(C.sys.Z 0 (.st (fV C (l+1)) (l+1))).sy b->(C.sys.Z 0 (.st .Ct l)).sy b)∧(∀b,(C.sys.Z n Tc).ro b->(C.sys.Z 0 (.st .Ct l)).ro b)∧(∀b,(C.sys.Z n Tc).sy b->(C.sys.Z 0 (.st .Ct l)).sy b)∧
  (∀b k,(C.sys.Z 0 (.st (fV C (l+1)) (l+1))).cl b k->(C.sys.Z 0 (.st (fV C (l+1)) (l+1))).sy b∧(C.sys.Z 0 (.st .Ct l)).cl b k)∧(∀b k,(C.sys.Z n Tc).cl b k->(C.sys.Z n Tc).sy b∧(C.sys.Z 0 (.st .Ct l)).cl b k∧¬(C.sys.Z 0 (.st (fV C (l+1)) (l+1))).cl b k):=by
  intro l Tc hl hj d1 d2 d3 d4;refine⟨⟨rfl,rfl,Iff.rfl, λ_ _ x=>x, λ_ _ _ x=>x⟩,by show(if s.jn then none else some (ConcR.stA C.Wg))≠none;rw[hj];simp,rfl,Oy _,d1,d2,rfl,d3,?_⟩;rw[ad4,d4];refine⟨λb x=>x, λb x=>x, λb x=>x, λb x=>x, λb i x=>?_, λb i x=>?_⟩
  .obtain⟨k,k1,k2,k3⟩:=x;exact⟨.inr (hC.cl k b i k2 k3),k,by omega,k2,k3⟩
  .refine⟨.inr (hC.cl l b i hl x),⟨l,aJ _,hl,x⟩, λ⟨k,k1,k2,k3⟩=>?_⟩;have :=hC.WC k l b i k3 x;omega
 cases hm with
 | @bd l _ b ho=>
   obtain⟨_,rfl,rfl⟩:=h.zJ hφ;exact main (h.jS rfl) (h.jQ (by simp)) (ok.Ir _ _ ho) rfl rfl rfl
 | @wg l _ ho=>
   obtain⟨_,rfl,rfl⟩:=h.zJ hφ;exact main (h.jS rfl) (h.jQ (by simp)) rfl rfl rfl rfl
def FI.mY(h:FI C inv n φ s pc j idx ws){k:Nat}{b:B}(hk:k<j)(hw:ws k=some (.bd k b)):(λk=>if k<j then iK (ws k)else none) k=some b:=by show(if k<j then iK (ws k)else none)=some b;rw[aj hk,hw];rfl
def Yb{syn:Nat->Prop}(ok:kF C.body C.N syn inv rb lt)(h:Iy C inv n φ s){i:Nat}{T T':FT B}{s':pJ Sb}(hφ:φ i=some T)(vW:¬C.sys.blk T s)(hw:C.sys.wakes T=false)(hm:Ov C i T s T' s'){l:Nat}{Tl:FT B}(hl:l≠i)(QT:φ l=some Tl)(hb:C.sys.blk Tl s):C.sys.blk Tl s':=by
 obtain⟨pc,j,idx,ws,h⟩:=h;cases hm with
 | @st p q s p' s' hm=>
   obtain⟨rfl,rfl,rfl⟩:=h.zJ hφ;have e:s'.b=s.b:=by cases hm<;>rfl
   cases Tl with
   |st p2 q2=>exact absurd (h.zJ QT).1 hl
   |bd k b=>show C.body.blk b s'.b;rw[e];exact hb
   |wg _ _=>exact hb.elim
 | @bd k b s b' sb' hm=>
   obtain⟨_,hk,hx,hwk⟩:=h.je hφ;cases Tl with
   |st p2 q2=>cases p2<;>first|exact hb|exact hb.elim
   |bd k2 b2=>
    obtain⟨_,hk2,hx2,hw2⟩:=h.je QT;have hne:k2≠k:= λe=>hl (by rw[<-hx2, <-hx,e])
    exact ok.stay h.body hk (h.mY hk hwk) vW hw hm k2 b2 hk2 hne (h.mY hk2 hw2) hb
   |wg _ _=>exact hb.elim
 | @wo k b s sb' hm=>
   obtain⟨_,hk,hx,hwk⟩:=h.je hφ;cases Tl with
   |st p2 q2=>cases p2<;>first|exact hb|exact hb.elim
   |bd k2 b2=>
    obtain⟨_,hk2,hx2,hw2⟩:=h.je QT;have hne:k2≠k:= λe=>hl (by rw[<-hx2, <-hx,e])
    exact ok.stay h.body hk (h.mY hk hwk) vW hw hm k2 b2 hk2 hne (h.mY hk2 hw2) hb
   |wg _ _=>exact hb.elim
 | @wg k p s p' s' hm=>
   have e:s'.b=s.b:=by cases hm<;>rfl
   cases Tl with
   |st p2 q2=>
    have e2:p≠ .d4->s'.sm=s.sm:= λhp=>by cases hm<;>first|rfl|exact absurd rfl hp
    have hp:p≠ .d4:= λx=>by subst x;cases hw
    cases p2<;>first|exact hb.elim|(show s'.sm=0;rw[e2 hp];exact hb)
   |bd k b=>show C.body.blk b s'.b;rw[e];exact hb
   |wg _ _=>exact hb.elim
def UO{syn:Nat->Prop}(ok:kF C.body C.N syn inv rb lt)(h:Iy C inv n φ s):∃i T,i<n∧φ i=some T∧¬C.sys.blk T s:=by
 obtain⟨pc,j,idx,ws,h⟩:=h
 by_cases hwg:∃k p,k<j∧ws k=some (.wg k p)
 .obtain⟨k,p,hk,hw⟩:=hwg;exact⟨idx k,.wg k p,(h.ij k hk).2,by rw[h.at' k hk];exact hw, λx=>x⟩
 by_cases hbd:∃k b,k<j∧ws k=some (.bd k b)
 .obtain⟨k,b,hk,hw⟩:=hbd;obtain⟨k,b,hk,D5,hnb⟩:=ok.alive h.body ⟨k,b,hk,h.mY hk hw⟩;have D5:(if k<j then iK (ws k)else none)=some b:=D5;rw[aj hk]at D5
  have hw:ws k=some (.bd k b):=by
   cases hT:ws k with
   |none=>rw[hT]at D5;cases D5
   |some T=>
    rcases h.who k T hk hT with⟨b',rfl⟩|⟨p,rfl,_⟩
    .rw[hT]at D5;have:b'=b:=aT D5;rw[this]
    .rw[hT]at D5;cases D5
  exact⟨idx k,.bd k b,(h.ij k hk).2,by rw[h.at' k hk];exact hw,hnb⟩
 .have hno:∀k,k<j->ws k=none:= λk hk=>by
   cases hT:ws k with
   |none=>rfl
   |some T=>
    rcases h.who k T hk hT with⟨b,rfl⟩|⟨p,rfl,_⟩
    .exact absurd ⟨k,b,hk,hT⟩ hbd
    .exact absurd ⟨k,p,hk,hT⟩ hwg
  refine⟨0,_,h.n0,h.h0, λhb=>?_⟩;cases pc with
  |w3=>
   have hb:s.sm=0:=hb
   have z:∀f:Option (FT B)->Nat,f none=0->sm j (λk=>f (ws k))=0:= λf hf=>by apply bn;intro hne;obtain⟨k,hk,hp⟩:=WE (f:= λk=>f (ws k)) (n:=j) (by omega);rw[hno k hk,hf]at hp;omega
   have hc:=h.cnt;rw[z pre rfl]at hc;have hw:=h.Iw rfl;rw[z wu rfl,z x4 rfl]at hw;simp[jC.pend]at hc;omega
  |_=>exact hb
def QU{syn:Nat->Prop}(ok:kF C.body C.N syn inv rb lt)(h:Iy C inv n φ s){i:Nat}{T T':FT B}{s':pJ Sb}(hφ:φ i=some T)(hm:Ov C i T s T' s'):C.sys.deaf T'=Kind.iD (C.sys.deaf T) (C.sys.kind T):=by
 obtain⟨pc,j,idx,ws,h⟩:=h;cases hm with
 | @st p q s p' s' hm=>
   show p'.deaf=Kind.iD p.deaf p.kind;cases hm<;>first|rfl|(split<;>rfl)
 | @bd k b s b' sb' hm=>
   obtain⟨_,hk,hx,hwk⟩:=h.je hφ;exact(ok.iD h.body hk (h.mY hk hwk) hm).symm
 | @wo k b s sb' hm=>
   obtain⟨_,hk,hx,hwk⟩:=h.je hφ;exact(ok.iD h.body hk (h.mY hk hwk) hm).symm
 | @wg k p s p' s' hm=>
   show p'.deaf=Kind.iD p.deaf p.kind;cases hm<;>first|rfl|(split<;>rfl)
def UQ{syn:Nat->Prop}(ok:kF C.body C.N syn inv rb lt)(h:Iy C inv n φ s){i:Nat}{T T':FT B}{s':pJ Sb}(hφ:φ i=some T)(hm:Ov C i T s T' s')(hk:(C.sys.kind T).plain=true):Same C.sys (nQ C) s s'∧C.sys.Z i T'=C.sys.Z i T∧C.sys.past T'=C.sys.past T:=by
 obtain⟨pc,j,idx,ws,h⟩:=h;cases hm with
 | @st p q s p' s' hm=>
   have hk:p.kind.plain=true:=hk
   have main:∀s':pJ Sb,s'.jn=s.jn->s'.b=s.b->s'.dn=s.dn->Same C.sys (nQ C) s s':= λs' e1 e2 e3=>
    ⟨by show(if s'.jn then none else C.body.fM)=_;rw[e1];rfl,by show(if s'.jn then none else some (ConcR.stA C.Wg))=_;rw[e1];rfl,by unfold nQ;rw[e1,e2], λG w x=>by show C.body.J s'.b G w;rw[e2];exact x, λD Dc w x=>by show s'.jn=true∨C.Dp s'.dn D Dc w;rw[e1,e3];exact x⟩
   cases hm<;>first|exact⟨main _ rfl rfl rfl,rfl,rfl⟩|(split<;>exact⟨main _ rfl rfl rfl,rfl,rfl⟩)|cases hk
 | @bd k b s b' sb' hm=>
   obtain⟨_,hkj,hx,hwk⟩:=h.je hφ;obtain⟨a1,a2⟩:=ok.plain h.body hkj (h.mY hkj hwk) hm hk;exact⟨⟨rfl,rfl,by unfold nQ;exact and_congr Iff.rfl a1,a2, λ_ _ _ x=>x⟩,rfl,rfl⟩
 | @wo k b s sb' hm=>
   obtain⟨_,hkj,hx,hwk⟩:=h.je hφ;obtain⟨a1,a2⟩:=ok.plain h.body hkj (h.mY hkj hwk) hm hk;exact⟨⟨rfl,rfl,by unfold nQ;exact and_congr Iff.rfl a1,a2, λ_ _ _ x=>x⟩,rfl,rfl⟩
 | @wg k p s p' s' hm=>
   have hk:p.kind.plain=true:=hk
   have main:∀s':pJ Sb,s'.jn=s.jn->s'.b=s.b->s'.dn=s.dn->Same C.sys (nQ C) s s':= λs' e1 e2 e3=>
    ⟨by show(if s'.jn then none else C.body.fM)=_;rw[e1];rfl,by show(if s'.jn then none else some (ConcR.stA C.Wg))=_;rw[e1];rfl,by unfold nQ;rw[e1,e2], λG w x=>by show C.body.J s'.b G w;rw[e2];exact x, λD Dc w x=>by show s'.jn=true∨C.Dp s'.dn D Dc w;rw[e1,e3];exact x⟩
   cases hm<;>first|exact⟨main _ rfl rfl rfl,rfl,rfl⟩|(split<;>exact⟨main _ rfl rfl rfl,rfl,rfl⟩)|cases hk
end
end
section
section
variable {B Sb ρ:Type} {C:Bq B Sb} {inv:Nat->(Nat->Option B)->Sb->Prop} {rb:(Nat->Option B)->Sb->ρ} {lt:ρ->ρ->Prop} {n:Nat} {φ:Nat->Option (FT B)} {s:pJ Sb} {pc:jC} {j:Nat} {idx:Nat->Nat} {ws:Nat->Option (FT B)}
def jC.oC(p:jC):p.kind≠ .pz∧p.kind≠ .pE∧p.kind≠ .done:=by cases p<;>simp[jC.kind]
def nV.oC(p:nV):p.kind≠ .pz∧p.kind≠ .pE∧p.kind≠ .join∧p.kind≠ .said∧p.kind≠ .clock:=by cases p<;>simp[nV.kind]
def Yc{syn:Nat->Prop}(ok:kF C.body C.N syn inv rb lt)(h:Iy C inv n φ s){i:Nat}{T T':FT B}{s':pJ Sb}(hφ:φ i=some T)(hm:Ov C i T s T' s')(hk:C.sys.kind T=.pz):
 nQ C s∧¬nQ C s'∧C.sys.fM s'=C.sys.fM s∧C.sys.kW s'=C.sys.kW s∧C.sys.kW s≠none∧C.sys.deaf T=0∧(∀D Dc w,C.sys.Dp s D Dc w->C.sys.Dp s' D Dc w)∧C.sys.Z i T'=C.sys.Z i T∧C.sys.past T'=C.sys.past T∧C.sys.quit T'=false:=by
 obtain⟨pc,j,idx,ws,h⟩:=h;cases hm with
 | @st p q s p' s' hm=>exact absurd hk p.oC.1
 | @bd k b s b' sb' hm=>
   obtain⟨_,hkj,hx,hwk⟩:=h.je hφ;obtain⟨a1,a2,a3,_⟩:=ok.pz h.body hkj (h.mY hkj hwk) hm hk;have hj:s.jn=false:=h.jQ λe=>by rw[h.uF (by rw[e];rfl) hkj]at hwk;cases hwk
   exact⟨⟨hj,a1⟩, λx=>a2 x.2,rfl,rfl,by show(if s.jn then none else some (ConcR.stA C.Wg))≠none;rw[hj];simp,a3, λ_ _ _ x=>x,rfl,rfl,rfl⟩
 | @wo k b s sb' hm=>
   obtain⟨_,hkj,hx,hwk⟩:=h.je hφ;exact absurd rfl (ok.pz h.body hkj (h.mY hkj hwk) hm hk).2.2.2
 | @wg k p s p' s' hm=>exact absurd hk p.oC.1
def Yd{syn:Nat->Prop}(ok:kF C.body C.N syn inv rb lt)(h:Iy C inv n φ s){i:Nat}{T T':FT B}{s':pJ Sb}(hφ:φ i=some T)(hm:Ov C i T s T' s')(hk:C.sys.kind T=.pE):
 ¬nQ C s∧C.sys.fM s'=C.sys.fM s∧C.sys.kW s'=C.sys.kW s∧C.sys.kW s≠none∧C.sys.deaf T=0∧(∀D Dc w,C.sys.Dp s D Dc w->C.sys.Dp s' D Dc w)∧C.sys.Z i T'=C.sys.Z i T∧C.sys.past T'=C.sys.past T∧C.sys.quit T'=false:=by
 obtain⟨pc,j,idx,ws,h⟩:=h;cases hm with
 | @st p q s p' s' hm=>exact absurd hk p.oC.2.1
 | @bd k b s b' sb' hm=>
   obtain⟨_,hkj,hx,hwk⟩:=h.je hφ;obtain⟨a1,a3,_⟩:=ok.pE h.body hkj (h.mY hkj hwk) hm hk;have hj:s.jn=false:=h.jQ λe=>by rw[h.uF (by rw[e];rfl) hkj]at hwk;cases hwk
   exact⟨λx=>a1 x.2,rfl,rfl,by show(if s.jn then none else some (ConcR.stA C.Wg))≠none;rw[hj];simp,a3, λ_ _ _ x=>x,rfl,rfl,rfl⟩
 | @wo k b s sb' hm=>
   obtain⟨_,hkj,hx,hwk⟩:=h.je hφ;exact absurd rfl (ok.pE h.body hkj (h.mY hkj hwk) hm hk).2.2
 | @wg k p s p' s' hm=>exact absurd hk p.oC.2.1
def f_done{syn:Nat->Prop}(ok:kF C.body C.N syn inv rb lt)(h:Iy C inv n φ s){i:Nat}{T T':FT B}{s':pJ Sb}(hφ:φ i=some T)(hm:Ov C i T s T' s')(hk:C.sys.kind T=.done):
 i≠0∧C.sys.past T=false∧C.sys.past T'=true∧C.sys.deaf T=0∧C.sys.fM s'=C.sys.fM s∧C.sys.kW s'=C.sys.kW s∧C.sys.kW s≠none∧(nQ C s'↔nQ C s)∧(∀G w,C.sys.J s G w->C.sys.J s' G w)∧
 (∀b,(C.sys.Z i T').ro b->(C.sys.Z i T).ro b)∧(∀b,(C.sys.Z i T').sy b->(C.sys.Z i T).sy b)∧(∀b k,¬(C.sys.Z i T').cl b k)∧C.sys.quit T'=false:=by
 obtain⟨pc,j,idx,ws,h⟩:=h;cases hm with
 | @st p q s p' s' hm=>exact absurd hk p.oC.2.2
 | @bd k b s b' sb' hm=>exact absurd hk (ok.kinds b).2.1
 | @wo k b s sb' hm=>exact absurd hk (ok.kinds b).2.1
 | @wg k p s p' s' hm=>
   obtain⟨h0,hkj,hx,hwk,_⟩:=h.Ow hφ;have hj:s.jn=false:=h.jQ λe=>by rw[h.uF (by rw[e];rfl) hkj]at hwk;cases hwk
   have hk:p.kind=.done:=hk;cases hm with
   |wr=>exact⟨h0,rfl,rfl,rfl,rfl,rfl,by show(if s.jn then none else some (ConcR.stA C.Wg))≠none;rw[hj];simp,Iff.rfl, λ_ _ x=>x, λ_ x=>x, λ_ x=>.inl x, λ_ _ x=>x,rfl⟩
   |_=>cases hk
def Ye{syn:Nat->Prop}(ok:kF C.body C.N syn inv rb lt)(h:Iy C inv n φ s){i:Nat}{T T':FT B}{s':pJ Sb}(hφ:φ i=some T)(hm:Ov C i T s T' s')(hk:C.sys.kind T=.join):
 i=0∧nQ C s∧C.sys.deaf T=0∧(∀l,l<n->l≠0->φ l=none)∧C.sys.fM s'=none∧C.sys.kW s'=none∧¬nQ C s'∧(∀w,C.sys.Dp s' (λ_=>False) (λ_ _=>False) w)∧
 (∀b,¬(C.sys.Z 0 T').ro b)∧(∀b,¬(C.sys.Z 0 T').sy b)∧(∀b k,¬(C.sys.Z 0 T').cl b k)∧C.sys.quit T'=false:=by
 obtain⟨pc,j,idx,ws,h⟩:=h;cases hm with
 | @bd k b s b' sb' hm=>exact absurd hk (ok.kinds b).2.2
 | @wo k b s sb' hm=>exact absurd hk (ok.kinds b).2.2
 | @wg k p s p' s' hm=>exact absurd hk p.oC.2.2.1
 | @st p q s p' s' hm=>
   have hk:p.kind=.join:=hk;obtain⟨rfl,rfl,rfl⟩:=h.zJ hφ;cases hm with
   |aq=>
    have hj:=h.jW rfl;have hb:=h.body;rw[hj]at hb
    have vg:=ok.finish hb λk hk=>by show(if k<C.N then iK (ws k)else none)=none;rw[aj hk,h.uF rfl (by omega)];rfl
    refine⟨rfl,⟨h.jQ (by simp),vg.1⟩,rfl, λl hl h0=>?_,rfl,rfl,(λx=>by cases x.1), λw=>.inl rfl, λ_ x=>x, λ_ x=>x, λ_ _ x=>x,rfl⟩
    by_cases hx:∃k,k<q∧idx k=l
    .obtain⟨k,k1,k2⟩:=hx;rw[<-k2,h.at' k k1,h.uF rfl k1]
    .exact h.out l h0 λk k1 k2=>hx ⟨k,k1,k2⟩
   |_=>cases hk
def IA(h:Iy C inv n φ s)(hw:C.sys.kW s=none):∀l,l<n->l≠0->φ l=none:=by
 obtain⟨pc,j,idx,ws,h⟩:=h
 have hj:s.jn=true:=by
  have hw:(if s.jn then none else some (ConcR.stA C.Wg))=none:=hw;cases e:s.jn with
  |true=>rfl
  |false=>rw[e]at hw;simp at hw
 have hp:=h.jn.1 hj;subst hp;intro l hl h0
 by_cases hx:∃k,k<j∧idx k=l
 .obtain⟨k,k1,k2⟩:=hx;rw[<-k2,h.at' k k1,h.uF rfl k1]
 .exact h.out l h0 λk k1 k2=>hx ⟨k,k1,k2⟩
def an3(hC:ym C)(ok:kF C.body C.N C.syn inv rb lt):pF C.sys (Iy C inv) (nQ C) (QN C rb) (DY lt) where
 wf:=DY.wf ok.wf
 fits:= λ{n φ s i T}h hi hφ=>by
  obtain⟨pc,j,idx,ws,h⟩:=h;refine⟨h.fits ok hφ,?_,?_,?_⟩
  .cases T with
   |st _ _=>rfl
   |bd _ _=>rfl
   |wg k p=>
    obtain⟨_,_,_,_,hp⟩:=h.Ow hφ;cases p<;>first|rfl|exact absurd rfl hp
  .intro e;cases T with
   |st _ _=>exact(h.zJ hφ).1
   |bd _ _=>cases e
   |wg _ _=>cases e
  .intro e;cases T with
   |st _ _=>exact(h.zJ hφ).1
   |bd _ _=>cases e
   |wg _ _=>cases e
 move:= λh hi hφ _ _ hb hm=>Ya ok h hi hφ hb hm
 spawn:= λh hφ _ hm=>UN ok h hφ hm
 Ki:= λh hφ _ hm=>QS hC ok h hφ hm
 stay:= λ{n φ s i T T' s'}h hi hφ hb hw hm l Tl hl hne QT hbl=>by
  rcases hm with hm|⟨Tc,hm⟩
  .exact Yb ok h hφ hb hw hm hne QT hbl
  .cases hm<;>exact hbl
 yc:= λT hf=>by
  cases T with
  |st p j=>cases p<;>first|exact⟨rfl, λs x=>x⟩|cases hf
  |bd _ _=>cases hf
  |wg _ _=>cases hf
 iD:= λh _ hφ hm=>QU ok h hφ hm
 plain:= λh _ hφ hm hk=>UQ ok h hφ hm hk
 pz:= λh _ hφ hm hk=>Yc ok h hφ hm hk
 pE:= λh _ hφ hm hk=>Yd ok h hφ hm hk
 done:= λh _ hφ hm hk=>f_done ok h hφ hm hk
 join:= λh _ hφ hm hk=>Ye ok h hφ hm hk
 joined:= λh hw=>IA h hw
 quits:= λ{n φ s i T T' s'}h hi hφ hm hq=>by
  obtain⟨pc,j,idx,ws,h⟩:=h;cases hm with
  |st _=>cases hq
  |bd _=>cases hq
  |wo _=>cases hq
  | @wg k p s p' s' hm=>
    refine⟨?_,(h.Ow hφ).1⟩;cases p'<;>first|rfl|cases hq
 FJ:= λ{n φ s i T}h hi hφ=>by
  obtain⟨pc,j,idx,ws,h⟩:=h;cases T with
  |st p l=>exact⟨λe=>(by cases e), λ_=>(h.zJ hφ).1⟩
  |bd k b=>exact⟨λe=>(by cases e), λe=>absurd e (ok.kinds b).1⟩
  |wg k p=>
   refine⟨λe=>⟨(h.Ow hφ).1,?_,p.oC.2.2.2.2, λe2=>?_⟩, λe=>absurd e p.oC.2.2.2.1⟩
   .cases p<;>first|trivial|cases e
   .have e2:p.kind=.atomic:=e2;show 0<p.deaf;cases p<;>first|exact Nat.zero_lt_one|(cases e2;done)
 alive:= λh=>UO ok h
 Kj:= λT s hr hb=>by
  cases T with
  |st p j=>cases p<;>first|exact hb|cases hr
  |bd _ _=>cases hr
  |wg _ _=>cases hr
 EC:= λs w d h=>⟨h.1,ok.EC s.b w d h.2⟩
 vz:= λs w w' h hk=>⟨Cv h.1 (hk _ hC.wg).1 (hk _ hC.wg).2,ok.vz s.b w w' h.2 hk⟩
 uA:= λs G w w' h hk=>ok.uA s.b G w w' h hk
 yf:= λs D Dc w w' h h1 h2=>h.imp id λh=>hC.yf s.dn D Dc w w' h h1 h2
def ad5{n:Nat}{φ:Nat->Option (FT B)}{s:pJ Sb}{T:FT B}(h:Iy C inv n φ s)(_:0<n)(hφ:φ 0=some T)(hr:C.sys.ret T=true):C.sys.fM s=none∧C.sys.kW s=none∧C.sys.deaf T=0∧∀j,j<n->j≠0->φ j=none:=by
 obtain⟨pc,j,idx,ws,h⟩:=h;cases T with
 |bd _ _=>cases hr
 |wg _ _=>cases hr
 |st p l=>
  obtain⟨_,rfl,rfl⟩:=h.zJ hφ;have hp:p=.fin:=by cases p<;>first|rfl|cases hr
  subst hp;have hj:=h.jn.2 rfl;have hw:C.sys.kW s=none:=by show(if s.jn then none else some (ConcR.stA C.Wg))=none;rw[hj];rfl
  exact⟨by show(if s.jn then none else C.body.fM)=none;rw[hj];rfl,hw,rfl,IA ⟨_,_,_,_,h⟩ hw⟩
end
end
end cS
section
abbrev cz:=@Go.Conc.Goes.stop
namespace cS
open Go Go.Conc Go.ConcM Go.ConcN
section
variable {P:Program} {main:Bool} {Z:fO} {own:Nat->Prop} {Stop:(Nat->Prop)->Goroutine->World->Prop}
def jB(own:Nat->Prop)(W:World):grow own W W=own:=by funext b;apply propext;unfold grow;exact⟨λh=>h.elim id λ⟨h1,h2⟩=>by omega,.inl⟩
def qK.refl(W:World):qK Z own W W:=⟨rfl,rfl,rfl,aJ _, λ_ _ _ _=>rfl, λ_ _=>⟨tV.refl _, λ_ _=>rfl⟩⟩
def dG{n:Nat}{g:Goroutine}{w:World}(h:Goes P main (dM Z own) Go.ConcR.DC0 (λg W=>Gw P main Z Stop own g W) n g w):Gw P main Z Stop own g w:=by
 induction n generalizing g w with
 |zero=>exact h w (dM.refl w)
 |succ n ih=>
  rcases h with h|⟨hs,h⟩
  .exact h w (dM.refl w)
  .refine Gw.xY hs λW1 hr=>?_
   have hg:=h W1 hr;cases hst:stepG P main g W1 with
   |go g' W' es=>
    rw[hst]at hg;obtain⟨⟨rfl,rfl⟩,hG⟩:=hg;refine⟨g',W',#[],rfl,qK.refl _, λe he=>by simp at he,?_⟩;rw[jB];exact ih hG
   |_=>rw[hst]at hg;exact hg.elim
end
section
variable {P:Program} {B Sb:Type} {C:Bq B Sb} {own:Nat->Prop} {g:Goroutine} {W:World}
structure Beside(C:Bq B Sb)(Z:fO)(own:Nat->Prop):Prop where
 own:∀b,own b->¬C.syn b
 ro:∀b,Z.ro b->¬C.syn b
 cl:∀b i,Z.cl b i->¬C.syn b
def dS.rely'{W W':World}{Z:fO}(h:dS C.sys W W')(hb:Beside C Z own):dM Z own W W':=
 ⟨h.tape,h.out,h.os,Nat.le_of_eq h.size.symm, λb x=>h.rest b (hb.own b x), λb x=>h.rest b (hb.ro b x), λb _=>by
   by_cases hs:C.syn b
   .exact h.tV b hs
   .rw[h.rest b hs];exact tV.refl _, λb i x=>by
   unfold World.cell?;simp only[h.rest b (hb.cl b i x)]⟩
def dS.refl(W:World):dS C.sys W W:=⟨rfl,rfl,OsLater.refl _,rfl, λ_ _=>rfl, λ_ _=>tV.refl _⟩
def At.of_law{T Sh:Type}{S:Sys T Sh}{i:Nat}{Tt:T}(h:xI P S (At P S) i Tt own g W):At P S i Tt own g W:=
 At.intro (X:= λi' T' dD g' W'=>i'=i∧T'=Tt∧dD=own∧g'=g∧W'=W) (λi' T' dD g' W' ⟨e1,e2,e3,e4,e5⟩=>by subst e1 e2 e3 e4 e5;exact xI.mono (λ_ _ _ _ _ x=>.inr x) h) ⟨rfl,rfl,rfl,rfl,rfl⟩
def zK{X:jE (FT B)}{pc:jC}{j:Nat}(hp:pc≠ .Ct∧pc≠ .aq∧pc≠ .fin)(hr:g.status=.running)(ho:g.offers=none)
 (h:∀s:pJ Sb,C.sys.Bb s W->EI C (.st pc j) s->(C.sys.blk (.st pc j) s∧stepG P true g W=.go { g with status:=.blocked } W #[])∨
   (¬C.sys.blk (.st pc j) s∧∃pc' s' g' W' es,pc'≠ .fin∧Br pc j s pc' s'∧stepG P true g W=.go g' W' es∧C.sys.Bb s' W'∧dS C.sys W W'∧PN C.sys s pc.kind es∧Gw P true (C.Zs j) (X 0 (.st pc' j)) own g' W')):
 xI P C.sys X 0 (.st pc j) own g W:=by
 refine⟨hr, λ_=>ho, λs hs hf=>?_⟩;have e1:C.sys.ret (.st pc j)=false:=by cases pc<;>first|rfl|exact absurd rfl hp.2.2
 have e2:C.sys.fork (.st pc j)=false:=by cases pc<;>first|rfl|exact absurd rfl hp.1
 rw[aa (by rw[e1];simp),aa (by rw[e2];simp)];rcases h s hs hf with⟨h1,h2⟩|⟨h1,pc',s',g',W',es,h2,h3,h4,h5,h6,h7,h8⟩
 .exact .inl ⟨h1,h2⟩
 .refine .inr ⟨h1,.st pc' j,s',g',W',es,.st h3,h4,(λe=>by cases e),h5,h6,h7,?_⟩
  have hon:On P C.sys X 0 (.st pc' j) own g' W':=by
   unfold On;have hz:C.sys.Z 0 (.st pc' j)=C.Zs j:=by cases pc'<;>first|rfl|exact absurd rfl h2
   rw[aa (by show¬(false=true);simp),hz];exact h8
  cases pc<;>first|exact hon|exact absurd rfl hp.2.1
end
end cS
end
namespace cS
open Go Go.ConcN Go.ConcM Go.RowKit Go.Conc.Lib Go.ConcR.Gen
open Go.Conc hiding KK wgBlock WgAt stA smA rd wr mk DC0
open Go.ConcR (KK wgBlock WgAt stA smA rd wr mk DC0)
section
def KW(ty:TypeId)(Wg:Nat)(Z:fO)(own:Nat->Prop)(W0 w:World):Prop:=dM Z own W0 w∧WgLive ty Wg w
def jl{ty:TypeId}{Wg:Nat}{w w1:World}(h:WgLive ty Wg w)(hs:tV w.heap[Wg]? w1.heap[Wg]?):WgLive ty Wg w1:=by
 obtain⟨st,sm,h⟩:=h;obtain⟨c',e1,e2,e3⟩:=hs _ _ _ h;obtain⟨a,ha⟩:=e3 0 .u64 st rfl;obtain⟨b,hb⟩:=e3 1 .u32 sm rfl;refine⟨a,b,?_⟩;show w1.heap[Wg]?=some (.cells #[.int .u64 a,.int .u32 b] ty)
 rw[e1];congr 2;have e2:c'.size=2:=e2;apply Array.ext_getElem?;intro i
 match i with
 |0=>rw[ha];rfl
 |1=>rw[hb];rfl
 |i+2=>
  rw[Array.getElem?_eq_none (by omega)];rfl
def dK{ty:TypeId}{Wg:Nat}{Z:fO}{own:Nat->Prop}{W0 w w1:World}(hz:Z.sy Wg)(h:KW ty Wg Z own W0 w)(hr:dM Z own w w1):KW ty Wg Z own W0 w1:=
 ⟨h.1.trans hr,jl h.2 (hr.sy _ hz)⟩
def UR{ty:TypeId}{a b a' b':Int}:tV (some (wgBlock ty a b)) (some (wgBlock ty a' b')):=by
 intro c e fr h;unfold wgBlock at h;cases h;refine⟨_,rfl,rfl, λi k n hi=>?_⟩
 match i,hi with
 |0,hi=>simp at hi;obtain⟨rfl,rfl⟩:=hi;exact⟨a',rfl⟩
 |1,hi=>simp at hi;obtain⟨rfl,rfl⟩:=hi;exact⟨b',rfl⟩
 |i+2,hi=>simp at hi
section
variable {P:Program} {L:WgLink} {B Sb:Type} {C:Bq B Sb} {own:Nat->Prop} {W0:World} {j:Nat}
def sP{ty:TypeId}{w:World}{st sm st' sm':Int}{w':World}(hs:C.syn C.Wg)(h:WgAt ty C.Wg w st sm)(h':WgAt ty C.Wg w' st' sm')(ha:Aside C.Wg w w'):dS C.sys w w':=by
 refine⟨ha.tape,ha.output,by rw[ha.os];exact OsLater.refl _,ha.size, λb hb=>ha.block b λe=>hb (e ▸ hs), λb _=>?_⟩
 by_cases e:b=C.Wg
 .subst e;have h1:w.heap[C.Wg]?=some (wgBlock ty st sm):=h
  have h2:w'.heap[C.Wg]?=some (wgBlock ty st' sm'):=h'
  rw[h1,h2];exact UR
 .rw[ha.block b e];exact tV.refl _
def pQ{a:Addr}(h:C.syn a.block):∀e∈ #[Go.ConcR.rd a,Go.ConcR.wr a],∃a,e.loc=.cell a∧e.sync=true∧C.syn a.block:= λe he=>by simp at he;rcases he with rfl|rfl<;>exact⟨a,rfl,rfl,h⟩
def Cw{a:Addr}(h:C.syn a.block):∀e∈ #[Go.ConcR.rd a],∃a,e.loc=.cell a∧e.sync=true∧C.syn a.block:= λe he=>by simp at he;rcases he with rfl;exact⟨a,rfl,rfl,h⟩
variable {qa9:Frame} {qaa:Act} {qa5:Array Oper} {qab:Nat} {qa6:List Nat} {qac:List Item} {cs:List Frame}
def an4(H:WgLib P L)(hty:C.ty=L.tWg)(hC:ym C)(hb:Beside C (C.Zs j) own)
 (hT:∀w,KW L.tWg C.Wg (C.Zs j) own W0 w->Gw P true (C.Zs j) (At P C.sys 0 (.st .Ct j)) own (G (qa9.at (qaa.put ((qa5[qab]?).bind (·.dst)) (.tuple #[])) (.inRegion qa5 qa6::qac)) cs) w)
 (w:World) (hF:KW L.tWg C.Wg (C.Zs j) own W0 w):
 Goes P true (dM (C.Zs j) own) DC0 (λg W=>Gw P true (C.Zs j) (At P C.sys 0 (.st .Ot j)) own g W) 100
  (G ((base L.add).at ⟨#[.pointer (some ⟨C.Wg,0,none⟩),.int .i64 1]++(List.replicate 115 undef).toArray,[]⟩ [.code (body_add L)]) (qa9.at qaa (.inRegion qa5 (qab::qa6)::qac)::cs)) w:=by
 lib_facts
 have hz:(C.Zs j).sy C.Wg:=.inl hC.wg;simp only[body_add,addFn,ak,List.replicate,List.append_toArray,List.cons_append,List.nil_append]
 repeat w_go (dK hz)
 refine cz (λqa2 qa0=>?_);replace hF:=dK hz hF qa0;clear qa0;refine Gw.stop λqa2 qa0=>At.of_law (zK (by simp) rfl rfl λs hs hf=>?_)
 replace hF:=dK hz hF qa0;clear qa0;refine .inr ⟨λx=>x,.Kl,s,_,qa2,_,by simp,.Ot,stepG_mark0 .disable (by simp) rfl rfl (by k_ne) rfl H.f_disable (x_disable_n L) (x_disable_b L) (x_disable_x L) (x_disable_f L),hs,dS.refl _,rfl,?_⟩;clear hs hf;refine dG (n:=60) ?_
 walk_nrm
 u_c stepG_region_end (dK hz) hF
 u_reg (dK hz) hF
 u_defer (dK hz) hF
 repeat w_go (dK hz)
 u_bub (dK hz) hF
 repeat w_go (dK hz)
 u_call H.f_uAdd (nm_uAdd L) uAddFn (dK hz) hF
 repeat w_go (dK hz)
 refine cz (λqa2 qa0=>?_);replace hF:=dK hz hF qa0;clear qa0;refine Gw.stop λqa4 qa0=>At.of_law (zK (by simp) rfl rfl λs hs hf=>?_)
 replace hF:=dK hz hF qa0;clear qa0;obtain⟨hv,hwt,hsm⟩:=hf;obtain⟨hw,hbody⟩:=hs;rw[hty,hwt,hsm]at hw;have hbig:=hC.big;rcases Nat.eq_zero_or_pos s.v with h0|hvp
 ·
  have hm:Br .Kl j s .FM { s with v:=s.v+1 }:=by
   have :=Br.Kl (j:=j) (s:=s)
   rwa [aj h0]at this
  replace hw:WgAt L.tWg C.Wg qa4 0 0:=by simpa[h0]using hw
  have e0:IntKind.u64.wrap (0+4294967296)=KK:=by decide
  have ha:=aside_setCell qa4 (stA C.Wg) (.int .u64 KK);have hst:dS C.sys qa4 (qa4.setCell (stA C.Wg) (.int .u64 KK)):=sP hC.wg hw (hw.setSt KK) ha;refine .inr ⟨λx=>x,.FM,_,_,qa4.setCell (stA C.Wg) (.int .u64 KK),_,by simp,hm,(stepG_add_atomic rfl rfl (by k_ne) rfl H.f_addU64 (x_addU64_n L) (x_addU64_b L) (x_addU64_x L) .u64 (x_addU64_f L) rfl rfl hw.cellSt (hw.thaw 0)).trans (by rw[e0];rfl),⟨?_,hC.Ao _ _ _ hbody λb hb=>ha.block b hb⟩,hst,pQ hC.wg,?_⟩
  .have :=hw.setSt KK;rw[hty];simpa[h0,hwt,hsm]using this
  replace hF:KW L.tWg C.Wg (C.Zs j) own W0 (qa4.setCell (stA C.Wg) (.int .u64 KK)):=⟨hF.1.trans (hst.rely' hb),⟨_,_,hw.setSt _⟩⟩;clear hw hm hbody hst ha;simp only[KK]at hF⊢;refine dG (n:=110) ?_
  walk_nrm
  repeat w_go (dK hz)
  u_leave1 H.f_uAdd (dK hz) hF
  repeat w_go (dK hz)
  u_conv H.underlying_tPU32 H.room_tU32 (Go.ConcN.Gen.WgLive.cell1 hF.2).choose_spec (dK hz) hF
  refine cz (λqa2 qa0=>?_);replace hF:=dK hz hF qa0;clear qa0;refine Gw.stop λqa3 qa0=>At.of_law (zK (by simp) rfl rfl λs hs hf=>?_)
  replace hF:=dK hz hF qa0;clear qa0;refine .inr ⟨λx=>x,.Km,s,_,qa3,_,by simp,.FM,stepG_markAt .read (by simp) rfl rfl (by k_ne) rfl H.f_raceRead (x_raceRead_n L) (x_raceRead_b L) (x_raceRead_x L) (x_raceRead_f L) (ad:=⟨C.Wg,1,none⟩) (by simp[Act.eval]),hs,dS.refl _,⟨⟨C.Wg,1,none⟩,hC.wg,.inl rfl⟩,?_⟩;clear hs hf;refine dG (n:=60) ?_
  walk_nrm
  repeat w_go (dK hz)
  refine cz (λqa2 qa0=>?_);replace hF:=dK hz hF qa0;clear qa0;refine Gw.stop λqa3 qa0=>At.of_law (zK (by simp) rfl rfl λs hs hf=>?_)
  replace hF:=dK hz hF qa0;clear qa0;refine .inr ⟨λx=>x,.Ct,s,_,qa3,_,by simp,.Km,stepG_unwind_entry (v:=.tuple #[]) (evs:= #[⟨.mark .enable,false,true⟩]) rfl H.f_enable (x_enable_n L) (x_enable_b L) (x_enable_x L) (x_enable_f L) (by simp[Extern.Race.none_]) (by simp) (by simp),hs,dS.refl _,rfl,?_⟩;clear hs hf;refine dG (n:=5) ?_
  u_leave0 H.f_add (dK hz) hF
  refine cz (λqa8 qa0=>hT qa8 (dK hz hF qa0))
 ·
  have hm:Br .Kl j s .Km { s with v:=s.v+1 }:=by
   have :=Br.Kl (j:=j) (s:=s)
   rwa [aa (by omega)]at this
  obtain⟨v,hsv⟩:∃v,v=s.v:=⟨_,rfl⟩;rw[<-hsv]at hw hv hvp;have hw:WgAt L.tWg C.Wg qa4 ((v:Int)*KK) 0:=by simpa using hw
  obtain⟨V,hV⟩:∃V:Int,V=(v:Int)+1:=⟨_,rfl⟩;obtain⟨S,hS⟩:∃S:Int,S=V*KK:=⟨_,rfl⟩;have eS:IntKind.u64.wrap ((v:Int)*KK+4294967296)=S:=by rw[IntKind.wrap_u64,hS,hV];simp only[KK];omega
  have a1:S/ 4294967296=V:=by rw[hS];simp only[KK];omega
  have b1:bits .and .u64 S 2147483648=0:=by rw[hS,hV];have :=st_flag (v+1) 0 (by omega) (by omega);simpa[KK]using this
  have b2:bits .and .u64 S 2147483647=0:=by rw[hS,hV];have :=st_waiters (v+1) 0 (by omega) (by omega);simpa[KK]using this
  have c1:IntKind.i32.wrap V=V:=by rw[IntKind.wrap_i32];omega
  have hV1:1<V:=by omega
  have hV2:V<2147483648:=by omega
  have q1:(V==1)=false:=by simp;omega
  have q2:decide (V=1)=false:=decide_eq_false (by omega);have q3:decide (V<0)=false:=decide_eq_false (by omega);have q4:decide (0<V)=true:=decide_eq_true (by omega);have q5:(V==0)=false:=by simp;omega
  have q6:decide (V=0)=false:=decide_eq_false (by omega);have ha:=aside_setCell qa4 (stA C.Wg) (.int .u64 S);have hst:dS C.sys qa4 (qa4.setCell (stA C.Wg) (.int .u64 S)):=sP hC.wg hw (hw.setSt S) ha;refine .inr ⟨λx=>x,.Km,_,_,qa4.setCell (stA C.Wg) (.int .u64 S),_,by simp,hm,(stepG_add_atomic rfl rfl (by k_ne) rfl H.f_addU64 (x_addU64_n L) (x_addU64_b L) (x_addU64_x L) .u64 (x_addU64_f L) rfl rfl hw.cellSt (hw.thaw 0)).trans (by rw[eS];rfl),⟨?_,hC.Ao _ _ _ hbody λb hb=>ha.block b hb⟩,hst,pQ hC.wg,?_⟩
  .have :=hw.setSt S;rw[hty];have e:S=((s.v+1:Nat):Int)*KK+(s.wt:Int):=by rw[hS,hV,hsv,hwt];simp
   show WgAt L.tWg C.Wg _ (((s.v+1:Nat):Int)*KK+(s.wt:Int)) (s.sm:Int);rw[<-e,hsm];exact this
  replace hF:KW L.tWg C.Wg (C.Zs j) own W0 (qa4.setCell (stA C.Wg) (.int .u64 S)):=⟨hF.1.trans (hst.rely' hb),⟨_,_,hw.setSt _⟩⟩;clear hw hm hbody hst ha hS hV eS hsv;refine dG (n:=110) ?_
  walk_nrm
  repeat w_go (dK hz)
  u_leave1 H.f_uAdd (dK hz) hF
  repeat(first|w_go (dK hz)|u_cnd false (dK hz) hF|u_cnd true (dK hz) hF)
  repeat w_go (dK hz)
  refine cz (λqa2 qa0=>?_);replace hF:=dK hz hF qa0;clear qa0;refine Gw.stop λqa3 qa0=>At.of_law (zK (by simp) rfl rfl λs hs hf=>?_)
  replace hF:=dK hz hF qa0;clear qa0;refine .inr ⟨λx=>x,.Ct,s,_,qa3,_,by simp,.Km,stepG_unwind_entry (v:=.tuple #[]) (evs:= #[⟨.mark .enable,false,true⟩]) rfl H.f_enable (x_enable_n L) (x_enable_b L) (x_enable_x L) (x_enable_f L) (by simp[Extern.Race.none_]) (by simp) (by simp),hs,dS.refl _,rfl,?_⟩;clear hs hf;refine dG (n:=5) ?_
  u_leave0 H.f_add (dK hz) hF
  refine cz (λqa8 qa0=>hT qa8 (dK hz hF qa0))
end
end
section
section
variable {P:Program} {L:WgLink} {B Sb:Type} {C:Bq B Sb} {own:Nat->Prop} {W0:World} {j:Nat}
def Lq{X:jE (FT B)}{g:Goroutine}{W:World}(hr:g.status=.running)(ho:g.offers=none)
 (h:∀s:pJ Sb,EI C (.st .aq j) s->∃g',stepG P true g W=.go g' W #[⟨.mark (.acquire (stA C.Wg)),false,true⟩]∧∀G D Dc dD,C.body.J s.b G W->C.Dp s.dn D Dc W->(∀b,G b->¬own b)->(∀b,dD b->b<W.heap.size∧¬C.syn b)->(∀b,own b->dD b)->(∀b,G b->dD b)->(∀b,D b->dD b)->Gw P true Z0 (X 0 (.st .fin j)) dD g' W):
 xI P C.sys X 0 (.st .aq j) own g W:=by
 refine⟨hr, λ_=>ho, λs hs hf=>?_⟩;rw[aa (by show¬(false=true);simp),aa (by show¬(false=true);simp)];obtain⟨g',h1,h2⟩:=h s hf;have hj:s.jn=false:=hf.2.2;refine .inr ⟨λx=>x,.st .fin j,{ s with jn:=true },g',W,_,.st .aq,h1,(λe=>by cases e),hs,dS.refl _,⟨stA C.Wg,?_,rfl⟩, λG D Dc dD hJ hD hdj ho' h4 h5 h6=>?_⟩
 .show(if s.jn then none else some (stA C.Wg))=_;rw[hj];rfl
 .unfold On;rw[aa (by show¬(false=true);simp)];refine h2 G D Dc dD hJ (hD.resolve_left λe=>?_) hdj ho' h4 h5 h6;rw[hj]at e;cases e
variable {qa9:Frame} {qaa:Act} {qa5:Array Oper} {qab:Nat} {qa6:List Nat} {qac:List Item} {cs:List Frame}
structure Joined(C:Bq B Sb)(s:pJ Sb)(G D:Nat->Prop)(Dc:Nat->Nat->Prop)(own dD:Nat->Prop)(W:World):Prop where
 J:C.body.J s.b G W
 Dp:C.Dp s.dn D Dc W
 dn:∀k,k<C.N->s.dn k=true
 fin:C.body.fin s.b
 ub:∀b,dD b->b<W.heap.size∧¬C.syn b
 sub:∀b,own b->dD b
 an5:∀b,G b->dD b
 at1:∀b,D b->dD b
 dis:∀b,G b->¬own b
def eH{own:Nat->Prop}{w0 w w1:World}(h:dM Z0 own w0 w)(hr:dM Z0 own w w1):dM Z0 own w0 w1:=h.trans hr
def waitRound(H:WgLib P L)(hty:C.ty=L.tWg)(hC:ym C)(hb:Beside C (C.Zs j) own)
 (hT:∀s Gl D Dc dD W w,KW L.tWg C.Wg (C.Zs j) own W0 W->Joined C s Gl D Dc own dD W->dM Z0 dD W w->Gw P true Z0 (At P C.sys 0 (.st .fin j)) dD (G (qa9.at (qaa.put ((qa5[qab]?).bind (·.dst)) (.tuple #[])) (.inRegion qa5 qa6::qac)) cs) w):
 ∀(b:Nat)(T:Array Value)(w:World),T.size=84->T[0]?=some (.pointer (some ⟨C.Wg,0,none⟩))->KW L.tWg C.Wg (C.Zs j) own W0 w->
  Gw P true (C.Zs j) (At P C.sys 0 (.st (.w1 b) j)) own (G ((base L.wait).at ⟨T,[]⟩ [.code (L7 L),.inLoop (L7 L),.inBlock 0]) (qa9.at qaa (.inRegion qa5 (qab::qa6)::qac)::cs)) w:=by
 intro b
 induction b using Nat.strongRecOn with
 |_ b ih=>
 intro T w hT84 t0 hF
 lib_facts
 have hz:(C.Zs j).sy C.Wg:=.inl hC.wg;obtain⟨v0,v1,v2,v3,v4,v5,v6,v7,v8,v9,v10,v11,v12,v13,v14,v15,v16,v17,v18,v19,v20,v21,v22,v23,v24,v25,v26,v27,v28,v29,v30,v31,v32,v33,v34,v35,v36,v37,v38,v39,v40,v41,v42,v43,v44,v45,v46,v47,v48,v49,v50,v51,v52,v53,v54,v55,v56,v57,v58,v59,v60,v61,v62,v63,v64,v65,v66,v67,v68,v69,v70,v71,v72,v73,v74,v75,v76,v77,v78,v79,v80,v81,v82,v83,rfl⟩:=array84 T hT84;simp only[List.getElem?_toArray,List.getElem?_cons_zero,Option.some.injEq]at t0;subst t0;refine dG (n:=40) ?_
 have hL7:L7 L=L7 L:=rfl;generalize hX:L7 L=X at hL7 ih⊢;have hX':=hX;simp only[L7,body_wait,waitFn,ak]at hX;subst hX;clear hL7
 repeat w_go (dK hz)
 u_call H.f_uLoad (nm_uLoad L) uLoadFn (dK hz) hF
 repeat w_go (dK hz)
 refine cz (λqa2 qa0=>?_);replace hF:=dK hz hF qa0;clear qa0;refine Gw.stop λqa2 qa0=>At.of_law (zK (by simp) rfl rfl λs hs hf=>?_)
 replace hF:=dK hz hF qa0;clear qa0;obtain⟨hvb,hv,hwt,hsm⟩:=hf;have hbig:=hC.big;have hw:=hs.1;rw[hty,hwt,hsm]at hw;rcases Nat.eq_zero_or_pos s.v with h0|hvp
 ·
  have hm:Br (.w1 b) j s .ke s:=by
   have :=Br.w1 (b:=b) (j:=j) (s:=s)
   rwa [aj h0]at this
  replace hw:WgAt L.tWg C.Wg qa2 0 0:=by simpa[h0]using hw
  refine .inr ⟨λx=>x,.ke,s,_,qa2,_,by simp,hm,stepG_load_atomic (v:=0) rfl rfl (by k_ne) rfl H.f_loadU64 (x_loadU64_n L) (x_loadU64_b L) (x_loadU64_x L) .u64 (x_loadU64_f L) rfl hw.cellSt,hs,dS.refl _,Cw hC.wg,?_⟩;clear hw hm hs hvb hv hwt hsm h0;refine dG (n:=60) ?_
  walk_nrm
  repeat w_go (dK hz)
  u_leave1 H.f_uLoad (dK hz) hF
  repeat w_go (dK hz)
  refine cz (λqa2 qa0=>?_);replace hF:=dK hz hF qa0;clear qa0;refine Gw.stop λqa2 qa0=>At.of_law (zK (by simp) rfl rfl λs hs hf=>?_)
  replace hF:=dK hz hF qa0;clear qa0;refine .inr ⟨λx=>x,.aq,s,_,qa2,_,by simp,.ke,stepG_mark0 .enable (by simp) rfl rfl (by k_ne) rfl H.f_enable (x_enable_n L) (x_enable_b L) (x_enable_x L) (x_enable_f L),hs,dS.refl _,rfl,?_⟩;clear hs hf;refine dG (n:=20) ?_
  walk_nrm
  repeat w_go (dK hz)
  u_conv H.underlying_tWgP H.room_tWg (Go.ConcN.Gen.WgLive.cell0 hF.2).choose_spec (dK hz) hF
  refine cz (λqa2 qa0=>?_);replace hF:=dK hz hF qa0;clear qa0;refine Gw.stop λqa2 qa0=>At.of_law (Lq rfl rfl λs hf=>?_)
  replace hF:=dK hz hF qa0;clear qa0;refine⟨_,stepG_markAt .acquire (by simp) rfl rfl (by k_ne) rfl H.f_acquire (x_acquire_n L) (x_acquire_b L) (x_acquire_x L) (x_acquire_f L) (by simp[Act.eval,stA]), λGl D Dc dD hJ hD hdj hO h4 h5 h6=>?_⟩;have fc:Joined C s Gl D Dc own dD qa2:=⟨hJ,hD,hf.1,hf.2.1,hO,h4,h5,h6,hdj⟩;replace hT:= λw hw=>hT s Gl D Dc dD qa2 w hF fc hw
  clear fc hJ hD hf h4 h5 h6;replace hF:dM Z0 dD qa2 qa2:=dM.refl _;refine dG (n:=40) ?_
  walk_nrm
  repeat w_go eH
  u_leave0 H.f_wait eH hF
  exact cz λw hw=>hT w (eH hF hw)
 ·
  obtain⟨v,hsv⟩:∃v,v=s.v:=⟨_,rfl⟩
  have hm:Br (.w1 b) j s (.w2 v) s:=by
   have :=Br.w1 (b:=b) (j:=j) (s:=s)
   rwa [aa (by omega), <-hsv]at this
  rw[<-hsv]at hw hv hvp hvb;have hw:WgAt L.tWg C.Wg qa2 ((v:Int)*KK) 0:=by simpa using hw
  obtain⟨S,hS⟩:∃S:Int,(v:Int)*KK=S:=⟨_,rfl⟩;have a1:S/ 4294967296=(v:Int):=by rw[<-hS];simp only[KK];omega
  have b1:bits .and .u64 S 2147483648=0:=by rw[<-hS];have :=st_flag v 0 (by omega) (by omega);simpa[KK]using this
  have b2:bits .and .u64 S 2147483647=0:=by rw[<-hS];have :=st_waiters v 0 (by omega) (by omega);simpa[KK]using this
  have c1:IntKind.i32.wrap (v:Int)=(v:Int):=by rw[IntKind.wrap_i32];omega
  have w1:IntKind.u64.wrap (S+1)=S+1:=by rw[IntKind.wrap_u64, <-hS];simp only[KK];omega
  have q3:decide ((v:Int)<0)=false:=decide_eq_false (by omega);have q4:decide (0<(v:Int))=true:=decide_eq_true (by omega);have q5:((v:Int)==0)=false:=by simp;omega
  have q6:decide ((v:Int)=0)=false:=decide_eq_false (by omega);rw[hS]at hw;refine .inr ⟨λx=>x,.w2 v,s,_,qa2,_,by simp,hm,stepG_load_atomic (v:=S) rfl rfl (by k_ne) rfl H.f_loadU64 (x_loadU64_n L) (x_loadU64_b L) (x_loadU64_x L) .u64 (x_loadU64_f L) rfl hw.cellSt,hs,dS.refl _,Cw hC.wg,?_⟩;clear hw hm hs hwt hsm hsv;have hS':=hS;clear hS;refine dG (n:=70) ?_
  walk_nrm
  repeat(first|w_go (dK hz)|u_leave1 H.f_uLoad (dK hz) hF|u_cnd false (dK hz) hF)
  u_call H.f_uCas (nm_uCas L) uCasFn (dK hz) hF
  repeat w_go (dK hz)
  refine cz (λqa2 qa0=>?_);replace hF:=dK hz hF qa0;clear qa0;refine Gw.stop λqa4 qa0=>At.of_law (zK (by simp) rfl rfl λs hs hf=>?_)
  replace hF:=dK hz hF qa0;clear qa0;obtain⟨br,hv0,hv',hwt,hsm⟩:=hf;obtain⟨hw,hbody⟩:=hs;rw[hty,hwt,hsm]at hw;have hw:WgAt L.tWg C.Wg qa4 ((s.v:Int)*KK) 0:=by simpa using hw
  by_cases e:s.v=v
  ·
   rw[e,hS']at hw;have ha:=aside_setCell qa4 (stA C.Wg) (.int .u64 (S+1));have hst:dS C.sys qa4 (qa4.setCell (stA C.Wg) (.int .u64 (S+1))):=sP hC.wg hw (hw.setSt (S+1)) ha;refine .inr ⟨λx=>x,.Uf,_,_,qa4.setCell (stA C.Wg) (.int .u64 (S+1)),_,by simp,.WB e,(stepG_cas_hit (v:=S) (n:=S+1) rfl rfl (by k_ne) rfl H.f_casU64 (x_casU64_n L) (x_casU64_b L) (x_casU64_x L) .u64 (x_casU64_f L) rfl rfl rfl hw.cellSt (hw.thaw 0)).trans (by rfl),⟨?_,hC.Ao _ _ _ hbody λb hb=>ha.block b hb⟩,hst,pQ hC.wg,?_⟩
   .have :=hw.setSt (S+1);rw[hty];show WgAt L.tWg C.Wg _ ((s.v:Int)*KK+((1:Nat):Int)) (s.sm:Int);rw[e,hS',hsm];exact this
   replace hF:KW L.tWg C.Wg (C.Zs j) own W0 (qa4.setCell (stA C.Wg) (.int .u64 (S+1))):=⟨hF.1.trans (hst.rely' hb),⟨_,_,hw.setSt _⟩⟩;clear hw hbody hst ha hv' br hv0 hwt hsm e hS';refine dG (n:=80) ?_
   walk_nrm
   repeat w_go (dK hz)
   u_leave1 H.f_uCas (dK hz) hF
   repeat w_go (dK hz)
   u_conv H.underlying_tPU32 H.room_tU32 (Go.ConcN.Gen.WgLive.cell1 hF.2).choose_spec (dK hz) hF
   refine cz (λqa2 qa0=>?_);replace hF:=dK hz hF qa0;clear qa0;refine Gw.stop λqa3 qa0=>At.of_law (zK (by simp) rfl rfl λs hs hf=>?_)
   replace hF:=dK hz hF qa0;clear qa0;refine .inr ⟨λx=>x,.w3,s,_,qa3,_,by simp,.Uf,stepG_markAt .write (by simp) rfl rfl (by k_ne) rfl H.f_raceWrite (x_raceWrite_n L) (x_raceWrite_b L) (x_raceWrite_x L) (x_raceWrite_f L) (ad:=⟨C.Wg,1,none⟩) (by simp[Act.eval]<;>rfl),hs,dS.refl _,⟨⟨C.Wg,1,none⟩,hC.wg,.inr rfl⟩,?_⟩;clear hs hf;refine dG (n:=40) ?_
   walk_nrm
   repeat w_go (dK hz)
   refine cz (λqa2 qa0=>?_);replace hF:=dK hz hF qa0;clear qa0;refine Gw.stop λqa3 qa0=>At.of_law (zK (by simp) rfl rfl λs hs hf=>?_)
   replace hF:=dK hz hF qa0;clear qa0;obtain⟨f1,f2,f3,f4⟩:=hf;obtain⟨hw,hbody⟩:=hs;rw[hty]at hw
   by_cases h0:s.sm=0
   .rw[h0]at hw;exact .inl ⟨h0,stepG_semacquire_wait rfl rfl rfl H.f_semacquire (x_semacquire_n L) (x_semacquire_b L) (x_semacquire_x L) (x_semacquire_f L) (by simp[Act.eval,smA]) hw.cellSm⟩
   have h1:s.sm=1:=by omega
   obtain⟨g1,g2⟩:=f4 h1;have hw:WgAt L.tWg C.Wg qa3 0 1:=by rw[g1,g2,h1]at hw;simpa using hw
   have ha:=aside_setCell qa3 (smA C.Wg) (.int .u32 0);have hst:dS C.sys qa3 (qa3.setCell (smA C.Wg) (.int .u32 0)):=sP hC.wg hw (hw.setSm 0) ha;refine .inr ⟨h0,.w4,_,_,qa3.setCell (smA C.Wg) (.int .u32 0),_,by simp,.w3,(stepG_semacquire (n:=1) rfl rfl (by k_ne) rfl H.f_semacquire (x_semacquire_n L) (x_semacquire_b L) (x_semacquire_x L) (x_semacquire_f L) (by simp[Act.eval,smA]) hw.cellSm (by k_ne) (hw.thaw 1)).trans (by rfl),⟨?_,hC.Ao _ _ _ hbody λb hb=>ha.block b hb⟩,hst,⟨smA C.Wg,hC.wg,rfl⟩,?_⟩
   .have :=hw.setSm 0;rw[hty];show WgAt L.tWg C.Wg _ ((s.v:Int)*KK+(s.wt:Int)) ((s.sm-1:Nat):Int);rw[g1,g2,h1];simpa using this
   replace hF:KW L.tWg C.Wg (C.Zs j) own W0 (qa3.setCell (smA C.Wg) (.int .u32 0)):=⟨hF.1.trans (hst.rely' hb),⟨_,_,hw.setSm _⟩⟩;clear hw hbody hst ha f1 f2 f3 f4 h0 h1 g1 g2;refine dG (n:=40) ?_
   walk_nrm
   repeat w_go (dK hz)
   u_call H.f_uLoad (nm_uLoad L) uLoadFn (dK hz) hF
   repeat w_go (dK hz)
   refine cz (λqa2 qa0=>?_);replace hF:=dK hz hF qa0;clear qa0;refine Gw.stop λqa3 qa0=>At.of_law (zK (by simp) rfl rfl λs hs hf=>?_)
   replace hF:=dK hz hF qa0;clear qa0;obtain⟨f1,f2,f3⟩:=hf;have hw:=hs.1;rw[hty,f1,f2,f3]at hw;replace hw:WgAt L.tWg C.Wg qa3 0 0:=by simpa using hw
   refine .inr ⟨λx=>x,.ke,s,_,qa3,_,by simp,.w4,stepG_load_atomic (v:=0) rfl rfl (by k_ne) rfl H.f_loadU64 (x_loadU64_n L) (x_loadU64_b L) (x_loadU64_x L) .u64 (x_loadU64_f L) rfl hw.cellSt,hs,dS.refl _,Cw hC.wg,?_⟩;clear hw hs f1 f2 f3;refine dG (n:=40) ?_
   walk_nrm
   repeat w_go (dK hz)
   u_leave1 H.f_uLoad (dK hz) hF
   repeat w_go (dK hz)
   refine cz (λqa2 qa0=>?_);replace hF:=dK hz hF qa0;clear qa0;refine Gw.stop λqa2 qa0=>At.of_law (zK (by simp) rfl rfl λs hs hf=>?_)
   replace hF:=dK hz hF qa0;clear qa0;refine .inr ⟨λx=>x,.aq,s,_,qa2,_,by simp,.ke,stepG_mark0 .enable (by simp) rfl rfl (by k_ne) rfl H.f_enable (x_enable_n L) (x_enable_b L) (x_enable_x L) (x_enable_f L),hs,dS.refl _,rfl,?_⟩;clear hs hf;refine dG (n:=20) ?_
   walk_nrm
   repeat w_go (dK hz)
   u_conv H.underlying_tWgP H.room_tWg (Go.ConcN.Gen.WgLive.cell0 hF.2).choose_spec (dK hz) hF
   refine cz (λqa2 qa0=>?_);replace hF:=dK hz hF qa0;clear qa0;refine Gw.stop λqa2 qa0=>At.of_law (Lq rfl rfl λs hf=>?_)
   replace hF:=dK hz hF qa0;clear qa0;refine⟨_,stepG_markAt .acquire (by simp) rfl rfl (by k_ne) rfl H.f_acquire (x_acquire_n L) (x_acquire_b L) (x_acquire_x L) (x_acquire_f L) (by simp[Act.eval,stA]), λGl D Dc dD hJ hD hdj hO h4 h5 h6=>?_⟩;have fc:Joined C s Gl D Dc own dD qa2:=⟨hJ,hD,hf.1,hf.2.1,hO,h4,h5,h6,hdj⟩;replace hT:= λw hw=>hT s Gl D Dc dD qa2 w hF fc hw
   clear fc hJ hD hf h4 h5 h6;replace hF:dM Z0 dD qa2 qa2:=dM.refl _;refine dG (n:=40) ?_
   walk_nrm
   repeat w_go eH
   u_leave0 H.f_wait eH hF
   exact cz λw hw=>hT w (eH hF hw)
  ·
   refine .inr ⟨λx=>x,.w1 (v-1),s,_,qa4,_,by simp,.QL e,stepG_cas_miss (v:=(s.v:Int)*KK) (old:=S) (n:=S+1) rfl rfl (by k_ne) rfl H.f_casU64 (x_casU64_n L) (x_casU64_b L) (x_casU64_x L) .u64 (x_casU64_f L) rfl rfl rfl hw.cellSt (hw.thaw 0) (by rw[<-hS'];simp only[KK];omega),⟨by rw[hty,hwt,hsm];simpa using hw,hbody⟩,dS.refl _,Cw hC.wg,?_⟩;have hlt:v-1<b:=by omega
   clear hw hbody hv' br hv0 hwt hsm e hS';refine dG (n:=30) ?_
   walk_nrm
   repeat w_but "inLoop" (dK hz)
   u_leave1 H.f_uCas (dK hz) hF
   repeat w_but "inLoop" (dK hz)
   u_c stepG_inLoop (dK hz) hF
   exact cz λw hw=>ih _ hlt _ w (by simp) (by simp) (dK hz hF hw)
end
end
section
section
variable {P:Program} {L:WgLink} {B Sb:Type} {C:Bq B Sb} {own:Nat->Prop} {W0:World} {j:Nat}
def Yf{X:jE (FT B)}{g:Goroutine}{W:World}{i k:Nat}{p:nV}(hp:p≠ .wr∧p≠ .qt)(hr:g.status=.running)
 (h:∀s:pJ Sb,C.sys.Bb s W->EI C (.wg k p) s->∃p' s' g' W' es,QM k p s p' s'∧stepG P (i==0) g W=.go g' W' es∧(p=.d4->mayWake P g=true)∧C.sys.Bb s' W'∧dS C.sys W W'∧PN C.sys s p.kind es∧
   (p'.wU=true->∃q,QuitsD P q 1 g')∧(p'.wU=false->p'≠ .wr∧Gw P (i==0) C.Zp (X i (.wg k p')) own g' W')):
 xI P C.sys X i (.wg k p) own g W:=by
 refine⟨hr, λ⟨_,x⟩=>x.elim, λs hs hf=>?_⟩;rw[aa (by show¬(false=true);simp),aa (by show¬(false=true);simp)];obtain⟨p',s',g',W',es,h1,h2,h3,h4,h5,h6,h7,h8⟩:=h s hs hf;refine .inr ⟨λx=>x,.wg k p',s',g',W',es,.wg h1,h2, λe=>h3 (by cases p<;>first|rfl|cases e),h4,h5,h6,?_⟩
 have hon:On P C.sys X i (.wg k p') own g' W':=by
  unfold On;cases hq:p'.wU with
  |true=>
   rw[aj (show C.sys.quit (.wg k p')=true from hq)];have e:C.sys.deaf (.wg k p')=1:=by cases p'<;>first|rfl|cases hq
   rw[e];exact h7 hq
  |false=>
   rw[aa (show¬C.sys.quit (.wg k p')=true by show¬p'.wU=true;rw[hq];simp)];obtain⟨a1,a2⟩:=h8 hq;have hz:C.sys.Z i (.wg k p')=C.Zp:=by cases p'<;>first|rfl|exact absurd rfl a1
   rw[hz];exact a2
 cases p<;>first|exact hon|exact absurd rfl hp.1
section
variable [Go.ConcR.Payload] {Cb n kk:Nat} (hty:C.ty=L.tWg) (hC:ym C) (hro:C.ro Cb) {i k:Nat} (hi:i≠0)
include hty hC hro hi
end
end
end
section
section
variable {P:Program} {L:WgLink} {B Sb:Type} {C:Bq B Sb} {own:Nat->Prop} {W0:World} {j:Nat}
def Yg{X:jE (FT B)}{g:Goroutine}{W:World}{i k:Nat}(hr:g.status=.running)
 (hD:∀dn D Dc,C.Dp dn D Dc W->C.Dp (Ou dn k) (λb=>D b∨own b) (λb l=>Dc b l∨C.cl k b l) W)
 (h:∃g',stepG P (i==0) g W=.go g' W #[⟨.mark (.releaseMerge (stA C.Wg)),false,true⟩]∧Gw P (i==0) C.Zp (X i (.wg k .k1)) (λ_=>False) g' W):xI P C.sys X i (.wg k .wr) own g W:=by
 obtain⟨g',hst,hg⟩:=h;refine⟨hr, λ⟨_,x⟩=>x.elim, λs hs hf=>?_⟩;rw[aa (by show¬(false=true);simp),aa (by show¬(false=true);simp)];refine .inr ⟨λx=>x,.wg k .k1,{ s with dn:=Ou s.dn k },g',W,_,.wg .wr,hst, λx=>(by cases x),hs,dS.refl _,⟨stA C.Wg,?_,rfl⟩, λD Dc hd=>hd.imp id λhd=>hD _ _ _ hd,?_⟩
 .show(if s.jn then none else some (stA C.Wg))=_;rw[show s.jn=false from hf];rfl
 .unfold On;rw[aa (by show¬(false=true);simp)];exact hg
def QuitsD.more:∀{n d:Nat}{g:Goroutine},QuitsD P n d g->QuitsD P (n+1) d g
 |0,_,_,h=>.inl h
 |_+1,_,_,h=>h.imp id λ⟨h1,g',es,h2,h3,h4⟩=>⟨h1,g',es,h2,h3,QuitsD.more h4⟩
def QuitsD.pad{n d:Nat}{g:Goroutine}(h:QuitsD P n d g):∀m,QuitsD P (n+m) d g
 |0=>h
 |m+1=>QuitsD.more (QuitsD.pad h m)
def yu{X:jE (FT B)}{g:Goroutine}{W:World}{i k:Nat}(hi:i≠0){p:nV}(hp:p≠ .wr∧p≠ .qt)(hr:g.status=.running)
 (h:∀s:pJ Sb,C.sys.Bb s W->EI C (.wg k p) s->∃p' s' g' W' es,QM k p s p' s'∧stepG P false g W=.go g' W' es∧(p=.d4->mayWake P g=true)∧C.sys.Bb s' W'∧dS C.sys W W'∧PN C.sys s p.kind es∧
   (p'.wU=true->∃q,QuitsD P q 1 g')∧(p'.wU=false->p'≠ .wr∧Gw P false C.Zp (X i (.wg k p')) own g' W')):
 xI P C.sys X i (.wg k p) own g W:=by
 have e:(i==0)=false:=by simpa using hi
 refine Yf hp hr λs hs hf=>?_
 rw[e];exact h s hs hf
def KP(ty:TypeId)(Wg:Nat)(w:World):Prop:=WgLive ty Wg w
def KP.rely{ty:TypeId}(hC:ym C){own:Nat->Prop}{w w1:World}(h:KP ty C.Wg w)(hr:dM C.Zp own w w1):KP ty C.Wg w1:=jl h (hr.sy _ hC.wg)
def ad8(H:WgLib P L)(hty:C.ty=L.tWg)(hC:ym C){i k:Nat}(hi:i≠0){c:Frame}{cs:List Frame}{qt:Nat}(hcm:c.mode=.returning)(hT:QuitsD P qt 0 (G c cs))
 (hD:∀w,KW L.tWg C.Wg (C.Zw k) own W0 w->∀dn D Dc,C.Dp dn D Dc w->C.Dp (Ou dn k) (λb=>D b∨own b) (λb l=>Dc b l∨C.cl k b l) w)
 (w:World) (hF:KW L.tWg C.Wg (C.Zw k) own W0 w):
 Gw P (i==0) (C.Zw k) (At P C.sys i (.wg k .wr)) own (G ((baseD L.done).at ⟨#[.pointer (some ⟨C.Wg,0,none⟩),undef,undef,undef],[]⟩ [.code (body_done L)]) (c::cs)) w:=by
 lib_facts
 have hz:(C.Zw k).sy C.Wg:=.inl hC.wg;have e0:(i==0)=false:=by simpa using hi
 rw[e0];refine dG (n:=60) ?_
 simp only[body_done,doneFn,ak]
 repeat w_go (dK hz)
 u_call H.f_add (nm_add L) addFn (dK hz) hF
 repeat w_go (dK hz)
 u_conv H.underlying_tWgP H.room_tWg (Go.ConcN.Gen.WgLive.cell0 hF.2).choose_spec (dK hz) hF
 refine cz (λqa2 qa0=>?_);replace hF:=dK hz hF qa0;clear qa0;refine Gw.stop λqa2 qa0=>At.of_law (Yg rfl (hD qa2 (dK hz hF qa0)) ?_)
 replace hF:KP L.tWg C.Wg qa2:=(dK hz hF qa0).2;clear qa0 hD hz;refine⟨_,by rw[e0];exact stepG_markAt .releaseMerge (by simp) rfl rfl (by k_ne) rfl H.f_relMerge (x_relMerge_n L) (x_relMerge_b L) (x_relMerge_x L) (x_relMerge_f L) (by simp[Act.eval,stA]),?_⟩;rw[e0];refine dG (n:=20) ?_
 walk_nrm
 repeat w_go (KP.rely hC)
 refine cz (λqa2 qa0=>?_);replace hF:=KP.rely hC hF qa0;clear qa0;refine Gw.stop λqa4 qa0=>At.of_law (yu hi (by simp) rfl λs hs hf=>?_)
 replace hF:=KP.rely hC hF qa0;clear qa0;refine⟨.d1,s,_,qa4,_,.k1,stepG_mark0 .disable (by simp) rfl rfl (by k_ne) rfl H.f_disable (x_disable_n L) (x_disable_b L) (x_disable_x L) (x_disable_f L), λx=>(by cases x),hs,dS.refl _,rfl, λx=>(by cases x), λ_=>⟨by simp,?_⟩⟩;clear hs hf;refine dG (n:=60) ?_
 walk_nrm
 u_c stepG_region_end (KP.rely hC) hF
 u_reg (KP.rely hC) hF
 u_defer (KP.rely hC) hF
 repeat w_go (KP.rely hC)
 u_bub (KP.rely hC) hF
 repeat w_go (KP.rely hC)
 u_call H.f_uAdd (nm_uAdd L) uAddFn (KP.rely hC) hF
 repeat w_go (KP.rely hC)
 refine cz (λqa2 qa0=>?_);replace hF:=KP.rely hC hF qa0;clear qa0;refine Gw.stop λqa3 qa0=>At.of_law (yu hi (by simp) rfl λs hs hf=>?_)
 clear qa0 hF;obtain⟨f1,f2,f3,f4⟩:=hf;obtain⟨hw,hbody⟩:=hs;rw[hty,f4]at hw;have hbig:=hC.big;obtain⟨v,hv⟩:∃v,s.v=v+1:=⟨s.v-1,by omega⟩
 have hw:WgAt L.tWg C.Wg qa3 (((v:Int)+1)*KK+(s.wt:Int)) 0:=by rw[hv]at hw;simpa using hw
 have ha:= λx=>aside_setCell qa3 (stA C.Wg) (.int .u64 x)
 have hm:QM k .d1 s (if s.v=1∧s.wt=1 then .d2 else .qt) { s with v:=s.v-1 }:=.d1;obtain⟨S0,hS0⟩:∃S0:Int,S0=(v:Int)*KK+(s.wt:Int):=⟨_,rfl⟩
 have oH:C.sys.Bb { s with v:=s.v-1 } (qa3.setCell (stA C.Wg) (.int .u64 S0)):=by refine⟨?_,hC.Ao _ _ _ hbody λb hb=>(ha _).block b hb⟩;rw[hS0];have :=hw.setSt ((v:Int)*KK+(s.wt:Int));rw[hty];show WgAt L.tWg C.Wg _ (((s.v-1:Nat):Int)*KK+(s.wt:Int)) (s.sm:Int);rw[hv,f4];simpa using this
 have wB:dS C.sys qa3 (qa3.setCell (stA C.Wg) (.int .u64 S0)):=sP hC.wg hw (hw.setSt _) (ha _);have e1:IntKind.u64.wrap (KK+18446744069414584320)=0:=by decide
 have e2:IntKind.u64.wrap (KK+1+18446744069414584320)=1:=by decide
 rcases Nat.eq_zero_or_pos v with hv0|hvp<;>(obtain h0|h0:s.wt=0∨s.wt=1:=by omega)
 ·
  rw[aa (by omega)]at hm;subst hv0;rw[h0]at hw hS0;replace hw:WgAt L.tWg C.Wg qa3 KK 0:=by simpa using hw
  have z:S0=0:=by rw[hS0];simp
  rw[z]at oH wB;clear hS0 z;refine⟨.qt,_,_,qa3.setCell (stA C.Wg) (.int .u64 0),_,hm,(stepG_add_atomic rfl rfl (by k_ne) rfl H.f_addU64 (x_addU64_n L) (x_addU64_b L) (x_addU64_x L) .u64 (x_addU64_f L) rfl rfl hw.cellSt (hw.thaw 0)).trans (by rw[e1];first|done|rfl), λx=>(by cases x),oH,wB,pQ hC.wg, λ_=>⟨qt+92,?_⟩, λx=>(by cases x)⟩;clear hw hm oH wB ha hbody;walk_nrm
  repeat(q_go;try w_num)
  q_leave1 H.f_uAdd
  repeat(q_go;try w_num)
  q_enable
  q_leave0 H.f_add
  q_c stepG_region_end
  q_c stepG_end
  exact QuitsD.leaveD rfl rfl H.f_done rfl hcm hT
 ·
  rw[aj ⟨by omega,h0⟩]at hm;subst hv0;rw[h0]at hw hS0;replace hw:WgAt L.tWg C.Wg qa3 (KK+1) 0:=by simpa using hw
  have z:S0=1:=by rw[hS0];simp
  rw[z]at oH wB;clear hS0 z;have hF:KP L.tWg C.Wg (qa3.setCell (stA C.Wg) (.int .u64 1)):=⟨_,_,hw.setSt 1⟩;refine⟨.d2,_,_,qa3.setCell (stA C.Wg) (.int .u64 1),_,hm,(stepG_add_atomic rfl rfl (by k_ne) rfl H.f_addU64 (x_addU64_n L) (x_addU64_b L) (x_addU64_x L) .u64 (x_addU64_f L) rfl rfl hw.cellSt (hw.thaw 0)).trans (by rw[e2];first|done|rfl), λx=>(by cases x),oH,wB,pQ hC.wg, λx=>(by cases x), λ_=>⟨by simp,?_⟩⟩;clear hw hm oH wB ha hbody hbig h0;refine dG (n:=130) ?_
  walk_nrm
  repeat w_go (KP.rely hC)
  u_leave1 H.f_uAdd (KP.rely hC) hF
  repeat w_go (KP.rely hC)
  u_call H.f_uLoad (nm_uLoad L) uLoadFn (KP.rely hC) hF
  repeat w_go (KP.rely hC)
  refine cz (λqa2 qa0=>?_);clear qa0 hF;refine Gw.stop λqa8 qa0=>At.of_law (yu hi (by simp) rfl λs hs hf=>?_)
  clear qa0;obtain⟨f1,f2,f3⟩:=hf;have hw:=hs.1;rw[hty,f1,f2,f3]at hw;replace hw:WgAt L.tWg C.Wg qa8 1 0:=by simpa using hw
  have hF:KP L.tWg C.Wg qa8:=⟨_,_,hw⟩;refine⟨.d3,s,_,qa8,_,.d2,stepG_load_atomic (v:=1) rfl rfl (by k_ne) rfl H.f_loadU64 (x_loadU64_n L) (x_loadU64_b L) (x_loadU64_x L) .u64 (x_loadU64_f L) rfl hw.cellSt, λx=>(by cases x),hs,dS.refl _,Cw hC.wg, λx=>(by cases x), λ_=>⟨by simp,?_⟩⟩;clear hw hs f1 f2 f3;refine dG (n:=60) ?_
  walk_nrm
  repeat w_go (KP.rely hC)
  u_leave1 H.f_uLoad (KP.rely hC) hF
  repeat w_go (KP.rely hC)
  u_call H.f_uStore (nm_uStore L) uStoreFn (KP.rely hC) hF
  repeat w_go (KP.rely hC)
  refine cz (λqa2 qa0=>?_);clear qa0 hF;refine Gw.stop λqa8 qa0=>At.of_law (yu hi (by simp) rfl λs hs hf=>?_)
  clear qa0;obtain⟨f1,f2,f3⟩:=hf;obtain⟨hw,hbody⟩:=hs;rw[hty,f1,f2,f3]at hw;replace hw:WgAt L.tWg C.Wg qa8 1 0:=by simpa using hw
  have ha:=aside_setCell qa8 (stA C.Wg) (.int .u64 0);have hF:KP L.tWg C.Wg (qa8.setCell (stA C.Wg) (.int .u64 0)):=⟨_,_,hw.setSt 0⟩;refine⟨.d4,_,_,qa8.setCell (stA C.Wg) (.int .u64 0),_,.d3,stepG_store_atomic rfl rfl (by k_ne) rfl H.f_storeU64 (x_storeU64_n L) (x_storeU64_b L) (x_storeU64_x L) (x_storeU64_f L) rfl rfl hw.cellSt (hw.thaw 0), λx=>(by cases x),⟨?_,hC.Ao _ _ _ hbody λb hb=>ha.block b hb⟩,sP hC.wg hw (hw.setSt 0) ha,?_, λx=>(by cases x), λ_=>⟨by simp,?_⟩⟩
  .have :=hw.setSt 0;rw[hty];show WgAt L.tWg C.Wg _ ((s.v:Int)*KK+((0:Nat):Int)) (s.sm:Int);rw[f1,f3];simpa using this
  .intro ev hev;simp at hev;subst hev;exact⟨stA C.Wg,rfl,rfl,hC.wg⟩
  clear hw hbody ha f1 f2 f3;refine dG (n:=60) ?_
  walk_nrm
  repeat w_go (KP.rely hC)
  u_leave0 H.f_uStore (KP.rely hC) hF
  repeat w_go (KP.rely hC)
  refine cz (λqa2 qa0=>?_);clear qa0 hF;refine Gw.stop λqa8 qa0=>At.of_law (yu hi (by simp) rfl λs hs hf=>?_)
  clear qa0;obtain⟨f1,f2,f3⟩:=hf;obtain⟨hw,hbody⟩:=hs;rw[hty,f1,f2,f3]at hw;replace hw:WgAt L.tWg C.Wg qa8 0 0:=by simpa using hw
  have ha:=aside_setCell qa8 (smA C.Wg) (.int .u32 1);refine⟨.qt,_,_,qa8.setCell (smA C.Wg) (.int .u32 1),_,.d4,(stepG_semrelease rfl rfl (by k_ne) rfl H.f_semrelease (x_semrelease_n L) (x_semrelease_b L) (x_semrelease_x L) (x_semrelease_f L) (by simp[Act.eval,smA]) hw.cellSm (hw.thaw 1)).trans (by rfl), λ_=>mayWake_entry rfl rfl H.f_semrelease (x_semrelease_b L),⟨?_,hC.Ao _ _ _ hbody λb hb=>ha.block b hb⟩,sP hC.wg hw (hw.setSm 1) ha,⟨smA C.Wg,hC.wg,rfl⟩, λ_=>⟨qt+40,?_⟩, λx=>(by cases x)⟩
  .have :=hw.setSm 1;rw[hty];show WgAt L.tWg C.Wg _ ((s.v:Int)*KK+(s.wt:Int)) ((s.sm+1:Nat):Int);rw[f1,f2,f3];simpa using this
  clear hw hbody ha f1 f2 f3;walk_nrm
  repeat(q_go;try w_num)
  q_enable
  q_leave0 H.f_add
  q_c stepG_region_end
  q_c stepG_end
  exact QuitsD.leaveD rfl rfl H.f_done rfl hcm (cS.QuitsD.pad hT _)
 ·
  rw[aa (by omega)]at hm;rw[h0]at hw hS0;have hw:WgAt L.tWg C.Wg qa3 (((v:Nat)+1)*KK+0) 0:=by simpa using hw
  have hS:S0=(v:Int)*KK+0:=by rw[hS0];simp
  have eS:IntKind.u64.wrap (((v:Nat)+1)*KK+0+18446744069414584320)=S0:=by rw[IntKind.wrap_u64,hS];simp only[KK];omega
  have a1:S0/ 4294967296=(v:Int):=by rw[hS];simp only[KK];omega
  have b1:bits .and .u64 S0 2147483648=0:=by rw[hS];have :=st_flag v 0 (by omega) (by omega);simpa[KK]using this
  have b2:bits .and .u64 S0 2147483647=0:=by rw[hS];have :=st_waiters v 0 (by omega) (by omega);simpa[KK]using this
  have c1:IntKind.i32.wrap (v:Int)=(v:Int):=by rw[IntKind.wrap_i32];omega
  have q3:decide ((v:Int)<0)=false:=decide_eq_false (by omega);have q4:decide (0<(v:Int))=true:=decide_eq_true (by omega);have q5:((v:Int)==0)=false:=by simp;omega
  have q6:decide ((v:Int)=0)=false:=decide_eq_false (by omega);refine⟨.qt,_,_,qa3.setCell (stA C.Wg) (.int .u64 S0),_,hm,(stepG_add_atomic rfl rfl (by k_ne) rfl H.f_addU64 (x_addU64_n L) (x_addU64_b L) (x_addU64_x L) .u64 (x_addU64_f L) rfl rfl hw.cellSt (hw.thaw 0)).trans (by rw[eS];first|done|rfl), λx=>(by cases x),oH,wB,pQ hC.wg, λ_=>⟨qt+92,?_⟩, λx=>(by cases x)⟩;clear hw hm oH wB ha hbody hS0 hS eS hv f1 f2 f3 f4 h0 hbig;walk_nrm
  repeat(q_go;try w_num)
  q_leave1 H.f_uAdd
  repeat(q_go;try w_num)
  q_enable
  q_leave0 H.f_add
  q_c stepG_region_end
  q_c stepG_end
  exact QuitsD.leaveD rfl rfl H.f_done rfl hcm hT
 ·
  rw[aa (by omega)]at hm;rw[h0]at hw hS0;have hw:WgAt L.tWg C.Wg qa3 (((v:Nat)+1)*KK+1) 0:=by simpa using hw
  have hS:S0=(v:Int)*KK+1:=by rw[hS0];simp
  have eS:IntKind.u64.wrap (((v:Nat)+1)*KK+1+18446744069414584320)=S0:=by rw[IntKind.wrap_u64,hS];simp only[KK];omega
  have a1:S0/ 4294967296=(v:Int):=by rw[hS];simp only[KK];omega
  have b1:bits .and .u64 S0 2147483648=0:=by rw[hS];have :=st_flag v 1 (by omega) (by omega);simpa[KK]using this
  have b2:bits .and .u64 S0 2147483647=1:=by rw[hS];have :=st_waiters v 1 (by omega) (by omega);simpa[KK]using this
  have c1:IntKind.i32.wrap (v:Int)=(v:Int):=by rw[IntKind.wrap_i32];omega
  have q3:decide ((v:Int)<0)=false:=decide_eq_false (by omega);have q4:decide (0<(v:Int))=true:=decide_eq_true (by omega);have q5:((v:Int)==0)=false:=by simp;omega
  have q6:decide ((v:Int)=0)=false:=decide_eq_false (by omega);refine⟨.qt,_,_,qa3.setCell (stA C.Wg) (.int .u64 S0),_,hm,(stepG_add_atomic rfl rfl (by k_ne) rfl H.f_addU64 (x_addU64_n L) (x_addU64_b L) (x_addU64_x L) .u64 (x_addU64_f L) rfl rfl hw.cellSt (hw.thaw 0)).trans (by rw[eS];first|done|rfl), λx=>(by cases x),oH,wB,pQ hC.wg, λ_=>⟨qt+100,?_⟩, λx=>(by cases x)⟩;clear hw hm oH wB ha hbody hS0 hS eS hv f1 f2 f3 f4 h0 hbig;walk_nrm
  repeat(q_go;try w_num)
  q_leave1 H.f_uAdd
  repeat(q_go;try w_num)
  q_enable
  q_leave0 H.f_add
  q_c stepG_region_end
  q_c stepG_end
  exact QuitsD.leaveD rfl rfl H.f_done rfl hcm (cS.QuitsD.pad hT _)
variable {qa9:Frame} {qaa:Act} {qa5:Array Oper} {qab:Nat} {qa6:List Nat} {qac:List Item} {cs:List Frame}
def ad9(H:WgLib P L)(hty:C.ty=L.tWg)(hC:ym C)(hb:Beside C (C.Zs j) own)
 (hT:∀s Gl D Dc dD W w,KW L.tWg C.Wg (C.Zs j) own W0 W->Joined C s Gl D Dc own dD W->dM Z0 dD W w->Gw P true Z0 (At P C.sys 0 (.st .fin j)) dD (G (qa9.at (qaa.put ((qa5[qab]?).bind (·.dst)) (.tuple #[])) (.inRegion qa5 qa6::qac)) cs) w)
 (w:World) (hF:KW L.tWg C.Wg (C.Zs j) own W0 w):
 Gw P true (C.Zs j) (At P C.sys 0 (.st .kd j)) own (G ((base L.wait).at ⟨#[.pointer (some ⟨C.Wg,0,none⟩)]++(List.replicate 83 undef).toArray,[]⟩ [.code (body_wait L)]) (qa9.at qaa (.inRegion qa5 (qab::qa6)::qac)::cs)) w:=by
 lib_facts
 have hz:(C.Zs j).sy C.Wg:=.inl hC.wg;have hR:=waitRound H hty hC hb hT;simp only[L7,body_wait,waitFn,ak,List.replicate,List.append_toArray,List.cons_append,List.nil_append]at hR⊢;refine dG (n:=10) ?_
 repeat w_go (dK hz)
 refine cz (λqa2 qa0=>?_);replace hF:=dK hz hF qa0;clear qa0;refine Gw.stop λqa2 qa0=>At.of_law (zK (by simp) rfl rfl λs hs hf=>?_)
 replace hF:=dK hz hF qa0;clear qa0;refine .inr ⟨λx=>x,.w1 j,s,_,qa2,_,by simp,.kd,stepG_mark0 .disable (by simp) rfl rfl (by k_ne) rfl H.f_disable (x_disable_n L) (x_disable_b L) (x_disable_x L) (x_disable_f L),hs,dS.refl _,rfl,?_⟩;clear hs hf;refine dG (n:=10) ?_
 walk_nrm
 u_c stepG_region_end (dK hz) hF
 u_c stepG_block (dK hz) hF
 u_c stepG_loop (dK hz) hF
 exact cz λqa4 qa1=>hR j _ qa4 (by simp) (by simp) (dK hz hF qa1)
end
end
end cS
namespace cS
open Go Go.Conc Go.ConcM Go.ConcN
inductive Aq where
 |out|ld|l0|r0|hd|sq|r1|c2|t1|s1|t2|r2|a1|r3|le|la|ur|ud|u0|uc|us|ue|bad
 deriving DecidableEq
structure LK where
 pc:Aq
 old:Nat:=0
 nw:Nat:=0
 aw:Bool:=false
 sv:Bool:=false
 it:Nat:=0
 ws:Bool:=false
 deriving DecidableEq
def Ml(old:Nat)(aw sv:Bool):Nat:=
 match old,aw,sv with
 |0,false,false=>1
 |1,false,false=>9
 |2,false,false=>3
 |2,true,_=>1
 |3,true,false=>9
 |3,true,true=>13
 |12,false,false=>20
 |_,_,_=>0
def QV(old:Nat)(aw sv:Bool):Bool:=Ml old aw sv !=0
def FQ(old:Nat)(aw sv:Bool)(it:Nat)(ws:Bool):LK:=
 if QV old aw sv then(if old=1∨old=3 then⟨.sq,old,0,aw,sv,it,ws⟩else⟨.c2,old,Ml old aw sv,aw,sv,it,ws⟩)else⟨.bad,0,0,false,false,0,false⟩
abbrev lk(p:Aq):LK:=⟨p,0,0,false,false,0,false⟩
def qo(T:LK)(mu ms:Nat):List (LK×Nat×Nat):=
 match T.pc with
 | .out=>[(lk .ld,mu,ms)]
 | .ld=>[(lk .l0,mu,ms)]
 | .l0=>if mu=0 then[(lk .le,1,ms)]else[(lk .r0,mu,ms)]
 | .r0=>[(⟨.hd,mu,0,false,false,0,false⟩,mu,ms)]
 | .hd=>[(FQ T.old T.aw T.sv T.it T.ws,mu,ms)]
 | .sq=>(⟨.c2,T.old,Ml T.old T.aw T.sv,T.aw,T.sv,T.it,T.ws⟩,mu,ms)::(if T.it<4 then[(⟨.r1,0,0,T.aw,T.sv,T.it,T.ws⟩,mu,ms)]else[])
 | .r1=>[(⟨.hd,mu,0,T.aw,T.sv,T.it+1,T.ws⟩,mu,ms)]
 | .c2=>if mu=T.old then(if T.old=0∨T.old=2 then[(lk .le,T.nw,ms)]else[(⟨if T.ws then .s1 else .t1,0,0,T.aw,T.sv,0,T.ws⟩,T.nw,ms)])else[(⟨.r3,0,0,T.aw,T.sv,T.it,T.ws⟩,mu,ms)]
 | .r3=>[(⟨.hd,mu,0,T.aw,T.sv,T.it,T.ws⟩,mu,ms)]
 | .t1=>[(⟨.s1,0,0,T.aw,T.sv,0,true⟩,mu,ms),(⟨.s1,0,0,T.aw,T.sv,0,false⟩,mu,ms)]
 | .s1=>if ms=0 then[]else[(⟨if T.sv then .r2 else .t2,0,0,T.aw,T.sv,0,T.ws⟩,mu,ms-1)]
 | .t2=>[(⟨.r2,0,0,T.aw,false,0,T.ws⟩,mu,ms),(⟨.r2,0,0,T.aw,true,0,T.ws⟩,mu,ms)]
 | .r2=>if mu=12 then[(⟨.a1,0,11,false,false,0,false⟩,mu,ms)]else if mu=20 then[(⟨.a1,0,if T.sv then 7 else 11,false,false,0,false⟩,mu,ms)]else if mu=13 then[(lk .bad,mu,ms)]else[(⟨.hd,mu,0,true,T.sv,0,T.ws⟩,mu,ms)]
 | .a1=>if T.nw<=mu then[(lk .le,mu-T.nw,ms)]else[(lk .bad,mu,ms)]
 | .le=>[(lk .la,mu,ms)]
 | .la=>[(lk .ur,mu,ms)]
 | .ur=>[(lk .ud,mu,ms)]
 | .ud=>[(lk .u0,mu,ms)]
 | .u0=>if mu=1 then[(lk .ue,0,ms)]else if mu=3 then[(lk .ue,2,ms)]else if mu=9 then[(⟨.uc,8,2,false,false,0,false⟩,8,ms)]else if mu=13 then[(lk .us,12,ms)]else[(lk .bad,mu,ms)]
 | .uc=>if mu=8 then[(lk .us,2,ms)]else[(lk .bad,mu,ms)]
 | .us=>[(lk .ue,mu,ms+1)]
 | .ue=>[(lk .ld,mu,ms),(lk .out,mu,ms)]
 | .bad=>[]
structure LG where
 a:LK
 b:LK
 mu:Nat
 ms:Nat
 deriving DecidableEq
def LG.sa(g:LG):List LG:=(qo g.a g.mu g.ms).map λr=>⟨r.1,g.b,r.2.1,r.2.2⟩
def LG.sb(g:LG):List LG:=(qo g.b g.mu g.ms).map λr=>⟨g.a,r.1,r.2.1,r.2.2⟩
def LK.Eg(T:LK):Bool:=match T.pc with
 | .le| .la| .ur| .ud| .u0=>true
 |_=>false
def LK.stuck(T:LK)(ms:Nat):Bool:=match T.pc with
 | .s1=>ms==0
 |_=>false
def LK.rH(T:LK):Bool:=match T.pc with
 | .out=>true
 |_=>false
def LK.wC(T:LK):Bool:=match T.pc with
 | .bad=>true
 |_=>false
def Kn(mu:Nat):Bool:=mu==0||mu==1||mu==2||mu==3||mu==8||mu==9||mu==12||mu==13||mu==20
def LG.safe(g:LG):Bool:=!g.a.wC&&!g.b.wC&&!(g.a.Eg&&g.b.Eg)&&((g.a.rH&&g.b.rH)||!((g.a.rH||g.a.stuck g.ms)&&(g.b.rH||g.b.stuck g.ms)))&&Kn g.mu&&decide (g.ms<=1)
def LPC:List Aq:=[.out,.ld,.l0,.r0,.hd,.sq,.r1,.c2,.t1,.s1,.t2,.r2,.a1,.r3,.le,.la,.ur,.ud,.u0,.uc,.us,.ue,.bad]
def LK.dec(c:Nat):LK:=⟨LPC.getD (c%32) .bad,c/ 32%32,c/ 1024%32,c/ 32768%2==1,c/ 65536%2==1,c/ 131072%8,c/ 1048576%2==1⟩
def LG.dec(c:Nat):LG:=⟨LK.dec (c%2097152),LK.dec (c/ 2097152%2097152),c/ 4398046511104%32,c/ 140737488355328⟩
def Aq.num:Aq->Nat
 | .out=>0| .ld=>1| .l0=>2| .r0=>3| .hd=>4| .sq=>5| .r1=>6| .c2=>7| .t1=>8| .s1=>9| .t2=>10| .r2=>11| .a1=>12| .r3=>13| .le=>14| .la=>15| .ur=>16| .ud=>17| .u0=>18| .uc=>19| .us=>20| .ue=>21| .bad=>22
def LK.enc(T:LK):Nat:=T.pc.num+32*(T.old+32*(T.nw+32*(T.aw.toNat+2*(T.sv.toNat+2*(T.it+8*T.ws.toNat)))))
def LG.enc(g:LG):Nat:=g.a.enc+2097152*(g.b.enc+2097152*(g.mu+32*g.ms))
end cS
namespace cS
inductive MT where
 |z
 |l (k v:Nat)
 |n (a:MT) (k:Nat) (b:MT)
noncomputable def MT.get(c:Nat)(t:MT):Nat:=@MT.rec (λ_=>Nat) 0 (λk v=>@Bool.rec (λ_=>Nat) 0 v (Nat.beq c k)) (λ_ k _ x y=>@Bool.rec (λ_=>Nat) y x (Nat.ble c k)) t
noncomputable def MT.put(c u:Nat)(t:MT):MT:=@MT.rec (λ_=>MT) (.l c u) (λk v=>@Bool.rec (λ_=>MT) (.n (.l k v) k (.l c u)) (.n (.l c u) c (.l k v)) (Nat.ble c k)) (λa k b x y=>@Bool.rec (λ_=>MT) (.n a k y) (.n x k b) (Nat.ble c k)) t
noncomputable def MT.all(p:Nat->Nat->Bool)(t:MT):Bool:=@MT.rec (λ_=>Bool) true p (λ_ _ _ x y=>x&&y) t
def MT.FR{p:Nat->Nat->Bool}{c:Nat}:∀t:MT,t.all p=true->t.get c≠0->p c (t.get c)=true
 | .z,_,h=>(h rfl).elim
 | .l k v,ha,h=>by
   change p k v=true at ha;change @Bool.rec (λ_=>Nat) 0 v (Nat.beq c k)≠0 at h;change p c (@Bool.rec (λ_=>Nat) 0 v (Nat.beq c k))=true;cases h1:Nat.beq c k with
   |true=>rw[Nat.eq_of_beq_eq_true h1];exact ha
   |false=>rw[h1]at h;exact(h rfl).elim
 | .n a k b,ha,h=>by
   have ha:=(bB (a.all p) (b.all p)).mp ha;change @Bool.rec (λ_=>Nat) (b.get c) (a.get c) (Nat.ble c k)≠0 at h;change p c (@Bool.rec (λ_=>Nat) (b.get c) (a.get c) (Nat.ble c k))=true;cases h1:Nat.ble c k with
   |true=>rw[h1]at h;exact FR a ha.1 h
   |false=>rw[h1]at h;exact FR b ha.2 h
def LK.wW(T:LK):Bool:=match T.pc with
 | .ur=>true
 |_=>false
def keyOf(g:LG):Nat:=(g.enc+1)*133837611498517%281474976710656
def yw(k:Nat):LG:=LG.dec (k*145004961428285%281474976710656-1)
noncomputable def bare{A:Type}(n:Nat)(f:Nat->A):A:=@Nat.rec (λ_=>A) (f 0) (λm _=>f (Nat.succ m)) n
noncomputable def Ko(l:List LG)(r:List Nat):List Nat:=@List.rec LG (λ_=>List Nat) r (λh _ x=>bare (keyOf h) λk=>k::x) l
noncomputable def QW(g:LG)(cut:Bool):List Nat:=(λr=>@Bool.rec (λ_=>List Nat) r (Ko g.sa r) (g.a.wW==cut)) (@Bool.rec (λ_=>List Nat) [] (Ko g.sb []) (g.b.wW==cut))
noncomputable def missing(t:MT)(l:List Nat):Nat:=@List.rec Nat (λ_=>Nat) 0 (λd _ x=>@Bool.rec (λ_=>Nat) x d (Nat.beq (t.get d) 0)) l
noncomputable def onto(l r:List Nat):List Nat:=@List.rec Nat (λ_=>List Nat) r (λd _ x=>d::x) l
noncomputable def ae0(f:Nat):List Nat->Nat->MT->MT:=@Nat.rec (λ_=>List Nat->Nat->MT->MT) (λ_ _ t=>t) (λ_ go l n t=>@List.rec Nat (λ_=>MT) t (λc l' _=>
 @Bool.rec (λ_=>MT) (go l' n t) (bare (missing t (QW (yw c) false)) λd=>
   @Bool.rec (λ_=>MT) (go (d::l) n t) (go (onto (QW (yw c) true) l') (Nat.succ n) (t.put c n)) (Nat.beq d 0)) (Nat.beq (t.get c) 0)) l) f
noncomputable def Mm:MT:=ae0 30000 (Ko [⟨lk .out,lk .out,0,0⟩] []) 1 .z
noncomputable def edgeOk(r:Nat)(cut:Bool)(h:LG):Bool:=bare (keyOf h) λk=>Nat.blt 0 (Mm.get k)&&decide (yw k=h)&&(cut||Nat.blt (Mm.get k) r)
noncomputable def rowOk(c r:Nat):Bool:=(yw c).safe&&(yw c).sa.all (edgeOk r (yw c).a.wW)&&(yw c).sb.all (edgeOk r (yw c).b.wW)
set_option maxRecDepth 1000000 in
def WI:(Mm.all rowOk&&edgeOk 0 true ⟨lk .out,lk .out,0,0⟩)=true:=by kernel_rfl
noncomputable def uG(g:LG):Nat:=Mm.get (keyOf g)
def Reach(g:LG):Prop:=uG g≠0∧yw (keyOf g)=g
def bare_eq{A:Type}(n:Nat)(f:Nat->A):bare n f=f n:=by cases n<;>rfl
def edge{r:Nat}{cut:Bool}{h:LG}(he:edgeOk r cut h=true):Reach h∧(cut=false->uG h<r):=by simp only[edgeOk,bare_eq,bB,decide_eq_true_eq,Bool.or_eq_true]at he;exact⟨⟨Nat.ne_of_gt (Nat.le_of_ble_eq_true he.1.1),he.1.2⟩, λhc=>Nat.le_of_ble_eq_true (he.2.resolve_left (by rw[hc];simp))⟩
def IB:Reach ⟨lk .out,lk .out,0,0⟩:=(edge ((bB _ _).mp WI).2).1
def zL{g:LG}(h:Reach g):(g.safe=true∧g.sa.all (edgeOk (uG g) g.a.wW)=true)∧g.sb.all (edgeOk (uG g) g.b.wW)=true:=by have :=MT.FR _ ((bB _ _).mp WI).1 h.1;rw[rowOk,h.2,bB,bB]at this;exact this
def Cx{g:LG}(h:Reach g):g.safe=true:=(zL h).1.1
def IC{g h:LG}(hg:Reach g)(hh:h∈g.sa):Reach h∧(g.a.wW=false->uG h<uG g):=edge (bF.1 (zL hg).1.2 h hh)
def IE{g h:LG}(hg:Reach g)(hh:h∈g.sb):Reach h∧(g.b.wW=false->uG h<uG g):=edge (bF.1 (zL hg).2 h hh)
end cS
