/- Part 15. -/
import Derived.Conc.JoinWorld
import Derived.Conc.CrowdSpec
import Derived.Test.YtnemnkmojiljmaaE14
set_option maxRecDepth 100000
set_option maxHeartbeats 8000000
set_option linter.all false
section
namespace Par
open Go Go.Conc Go.ConcM Go.ConcN
variable {O:Nat->Prop}
section
variable {T Sh ρ:Type} {P:Program} {S:Sys T Sh} {AI:Nat->(Nat->Option T)->Sh->Prop} {free:Sh->Prop} {rk:Nat->(Nat->Option T)->Sh->ρ} {lt:ρ->ρ->Prop}
theorem Gr.running {main:Bool} {Z:eG} {Stop:(Nat->Prop)->Goroutine->World->Prop} (hst:∀own g W,Stop own g W->g.status= .running) {tr:Tr} {own:Nat->Prop} {g:Goroutine} {W:World} (h:Gr P main Z Stop tr own g W):g.status= .running:=by
 cases tr with
 |leaf=>exact hst _ _ _ (h W (bZ.refl W))
 |node f=>exact h.1
theorem jL {i:Nat} {Tt:T} {own:Nat->Prop} {g:Goroutine} {W:World} (h:At P S i Tt own g W):g.status= .running:=h.law.1
theorem GI {i:Nat} {Tt:T} {own:Nat->Prop} {g:Goroutine} {W:World} (h:At P S i Tt own g W) {s:Sh} (hb:S.blk Tt s):g.offers=none:=h.law.2.1 ⟨s,hb⟩
theorem Od {Z:eG} {own:Nat->Prop} (w:World) (d:Nat):bZ Z own w (w.at d):=⟨rfl,rfl,OsLater.refl _,aj _, λ_ _=>rfl, λ_ _=>rfl, λ_ _=>xg.refl _, λ_ _ _=>rfl⟩
theorem xS {gs:Array Goroutine} {i j:Nat} {f:Goroutine->Goroutine} {g' gj:Goroutine} (h:((gs.map f).setIfInBounds i g')[j]?=some gj):(j=i∧gj=g'∧i<gs.size)∨(j≠i∧∃g0,gs[j]?=some g0∧gj=f g0):=by
 by_cases e:i=j
 ·subst e;have hlt:=(aa.1 h).1;simp only [Array.size_setIfInBounds,Array.size_map] at hlt;rw [Array.getElem?_setIfInBounds_self_of_lt (by simpa using hlt)] at h;exact .inl ⟨rfl,(aD h).symm,hlt⟩
 ·rw [Array.getElem?_setIfInBounds_ne e,Array.getElem?_map] at h;cases hg:gs[j]? with
  |none=>rw [hg] at h;cases h
  |some g0=>rw [hg] at h;exact .inr ⟨Ne.symm e,g0,rfl,(aD h).symm⟩
theorem GJ {w w2:World} {t:Trace} {s:Sh} {γ:Gh} {j:Nat} {gj g g':Goroutine} {Bc:TS T} (h:One P S w t s γ j gj Bc):One P S w t s γ j (woken P g g' w2 gj) Bc:=by
 cases Bc with
 |lv k d=>obtain ⟨h1,h2⟩:=h;exact ⟨by rw [woken_quitsD h1];exact h1,h2⟩
 |fe x=>
  obtain ⟨h1,h2,h3⟩:=h;have hrun:x.g.status= .running:=h2.running λ_ _ _=>jL
  refine ⟨?_,h2,h3⟩;rcases h1 with rfl|⟨hl,hb,rfl⟩
  ·left;unfold woken;split
   ·exact again_running _ (.inl hrun)
   ·rfl
  ·have hoff:x.g.offers=none:=by
    rw [hl] at h2;exact GI (h2 x.W (bZ.refl _)) hb
   unfold woken;split
   ·exact .inl (again_blocked hrun hoff _)
   ·exact .inr ⟨hl,hb,rfl⟩
theorem Tm {Z:eG} {own:Nat->Prop} {es:Array Event} (h:∀e∈es,PG Z own e):∀e∈es,e.loc≠ .mark .disable∧e.loc≠ .mark .enable:=by
 intro e he;have :=(h e he).2;obtain ⟨loc,wr,sy⟩:=e;cases loc with
 |mark m=>
  have hm:m= .noRoom:=this;subst hm;exact ⟨by simp,by simp⟩
 |_=>exact ⟨by simp,by simp⟩
theorem PV {w w':World} {t u:Trace} {s:Sh} {γ:Gh} {i j:Nat} {gj:Goroutine} {Bc:TS T} {Z:eG} {own:Nat->Prop} (hj:j≠i) (hu:∀op∈u,op.g=i) (hB:γ.B=w.heap.size) (hR:eU γ w.heap.size i Z own) (hg:uE Z own w w')
 (h:One P S w t s γ j gj Bc):One P S w' (t++u) s (grown γ i w'.heap.size) j gj Bc:=by
 cases Bc with
 |lv k d=>
  obtain ⟨h1,h2,h3,h4⟩:=h;exact ⟨h1,by rw [Deaf_other t (Ne.symm hj) u hu];exact h2,h3,h4⟩
 |fe x=>
  obtain ⟨h1,h2,h3,h4,h5,h6,h7⟩:=h;have hk:=eU.keep (i:=i) (n':=w'.heap.size) (by rw [hB];exact h7) (by rw [hB];exact hg.size);exact ⟨h1,h2,h3.trans (hR.rely h7 (Ne.symm hj) hg),by rw [Deaf_other t (Ne.symm hj) u hu];exact h4,h5,h6,hk⟩
theorem MI.at {gs:Array Goroutine} {w:World} {t:Trace} {θ:Nat->TS T} {s:Sh} {γ:Gh} {G D:Nat->Prop} {Dc:Nat->Nat->Prop} (ok:sW S AI free rk lt) (h:MI P S AI free O gs w t θ s γ G D Dc) (d:Nat):MI P S AI free O gs (w.at d) t θ s γ G D Dc:=by
 refine ⟨λi g hi=>?_,h.main,h.pos,h.ai,ok.GH s w d h.rep,h.ti,h.B,h.nums,h.syn,h.nomem,h.memo,h.Bb,h.jn,h.dY,h.mE, λhf=>⟨ok.xR s G w (w.at d) (h.lk hf).1 λ_ _=>rfl,(h.lk hf).2⟩,ok.Ba s D Dc w (w.at d) h.dn.1 (λ_ _=>rfl) (λ_ _ _=>rfl),h.dn.2⟩;have :=h.one i g hi;cases wC:θ i with
 |lv k d=>rw [wC] at this;exact this
 |fe x=>
  rw [wC] at this;obtain ⟨h1,h2,h3,h4,h5,h6,h7⟩:=this;exact ⟨h1,h2,h3.trans (Od w d),h4,h5,h6,h7⟩
theorem xU {t:Trace} {n i:Nat} (h:∀op∈t,op.g<n) (hi:i<n) (fn:FuncId) (pos:String) (es:Array Event):∀op∈t++MemOp.ofEvents i fn pos es,op.g<n:=by
 intro op hop;rcases Array.mem_append.1 hop with hop|hop
 ·exact h op hop
 ·obtain ⟨e,_,rfl⟩:=mem_ofEvents hop;exact hi
theorem MI.private {gs:Array Goroutine} {w:World} {t:Trace} {θ:Nat->TS T} {s:Sh} {γ:Gh} {G D:Nat->Prop} {Dc:Nat->Nat->Prop} (ok:sW S AI free rk lt) (h:MI P S AI free O gs w t θ s γ G D Dc)
 {i:Nat} {g:Goroutine} (hi:gs[i]?=some g) {x:Tk T} (hx:θ i= .fe x) {f:World->Tr} (htr:x.tr= .node f):
 ∃g' w' es,stepG P (i==0) g w= .go g' w' es∧MI P S AI free O ((gs.map (woken P g g' w')).setIfInBounds i g') w' (t++MemOp.ofEvents i g.frame.fn g.frame.place es)
  (upd θ i (.fe { x with own:=grow x.own w w',g:=g',W:=w',tr:=f w })) s (grown γ i w'.heap.size) G D Dc:=by
 have h1:=h.one i g hi;rw [hx] at h1;obtain ⟨hgx,Oe,EM,hDeaf,mU,Ch,dh⟩:=h1
 have hgx:g=x.g:=by
  rcases hgx with e|⟨e,_⟩
  ·exact e
  ·rw [htr] at e;cases e
 subst hgx;have hlt:=(aa.1 hi).1
 have hact:(i=0∨γ.act i)∨(S.Z i x.Tt).mute:=by
  by_cases h0:i=0
  ·exact .inl (.inl h0)
  ·cases hp:S.past x.Tt with
   |false=>exact .inl (.inr ((Ch h0).2 hp))
   |true=>
    have hφ:stops θ i=some x.Tt:=by unfold stops;rw [hx];rfl
    exact .inr ((ok.IX h.ai hlt hφ).1 hp).2.1
 rw [htr] at Oe;obtain ⟨hrun,hstep⟩:=Oe;obtain ⟨g',w',es,hgo,qj,hev,hnext⟩:=hstep w EM;have hu:∀op∈MemOp.ofEvents i x.g.frame.fn x.g.frame.place es,op.g=i:= λop hop=>by obtain ⟨e,_,rfl⟩:=mem_ofEvents hop;rfl
 have hkeep:∀b,b<w.heap.size->¬x.own b->¬(S.Z i x.Tt).sy b->w'.heap[b]?=w.heap[b]?:= λb h1 h2 h3=>qj.rest b h1 h2 h3
 have VW:∀b,γ.who (.obj b)≠ .fe i->¬x.own b:= λb hb ho=>hb (dh.mF ho)
 have Vf:∀b,γ.who (.obj b)≠ .sy->γ.who (.obj b)≠ .pt->¬(S.Z i x.Tt).sy b:= λb hb hb' ho=>(dh.sy b ho).2.elim hb hb'
 refine ⟨g',w',es,hgo,⟨λj gj hj=>?_,?_,?_,?_,?_,?_,?_,?_, λb hb=>?_, λl hl=>?_, λl hl=>?_, λk hk=>?_, λhj l hl hns=>?_,h.dY,h.mE, λhf=>?_,?_⟩⟩
 ·rcases xS hj with ⟨rfl,rfl,_⟩|⟨hne,g0,hg0,rfl⟩
  ·rw [upd_same];exact ⟨.inl rfl,hnext,bZ.refl _,by rw [Deaf_own,deafBehind_still (Tm hev)];exact hDeaf,mU,Ch,dh.grow h.B qj.size⟩
  ·rw [upd_ne hne];exact PV hne hu h.B dh qj (GJ (h.one j g0 hg0))
 ·obtain ⟨y,hy⟩:=h.main
  by_cases h0:(0:Nat)=i
  ·subst h0;exact ⟨_,upd_same ..⟩
  ·exact ⟨y,by rw [upd_ne h0];exact hy⟩
 ·simpa using h.pos
 ·have e:stops (upd θ i (.fe { x with own:=grow x.own w w',g:=g',W:=w',tr:=f w }))=stops θ:=by
   funext j;unfold stops
   by_cases hj:j=i
   ·subst hj;rw [upd_same,hx];rfl
   ·rw [upd_ne hj]
  rw [e];simpa using h.ai
 ·refine ok.yw s w w' h.rep λb hb=>?_
  obtain ⟨h1,h2⟩:=h.syn b (.inl hb);have hw:=h2 (.obj b) trivial rfl
  by_cases hz:(S.Z i x.Tt).sy b
  ·refine ⟨(qj.sy b hz).1, λk=>(qj.sy b hz).2 k λhc=>?_⟩;have :=((dh.cl b k hc).2.2 ⟨b,k,none⟩ rfl rfl).symm.trans (h2 (.cell ⟨b,k,none⟩) trivial rfl);cases this
  ·have :=hkeep b h1 (VW b (by rw [hw];simp)) hz;refine ⟨by rw [this];exact xg.refl _, λk=>?_⟩;unfold World.cell?;simp only [this]
 ·exact h.ti.private dh h.B qj.size mU hact hev _ _
 ·rfl
 ·simpa using xU h.nums hlt _ _ _
 ·obtain ⟨h1,h2⟩:=h.syn b hb;exact ⟨ak h1 qj.size, λl hl e=>by rw [iA λ_=>by rw [e,h.B];exact h1];exact h2 l hl e⟩
 ·rw [iA λhm=>absurd hm hl];exact h.nomem l hl
 ·rcases aO (lb l) γ.B with hlt'|hge
  ·rw [iA λ_=>hlt'];exact h.memo l hl
  ·rw [Cg hl hge];exact ⟨by simp,by simp⟩
 ·simpa using h.Bb k hk
 ·rcases aO (lb l) γ.B with hlt'|hge
  ·rw [iA λ_=>hlt'];exact h.jn hj l hl hns
  ·rw [Cg hl hge]
   have h0:i=0:=by
    apply aM;intro h0;have :=ok.joined h.ai hj i hlt h0;unfold stops at this;rw [hx] at this;cases this
   rw [h0]
 ·obtain ⟨h1,h2⟩:=h.lk hf;refine ⟨ok.xR s G w w' h1 λb hb=>?_, λb hb=>⟨ak (h2 b hb).1 qj.size, λl hl e=>?_⟩⟩
  ·have hw:=(h2 b hb).2 (.obj b) trivial rfl;exact hkeep b (h2 b hb).1 (VW b (by rw [hw];simp)) (Vf b (by rw [hw];simp) (by rw [hw];simp))
  ·rw [iA λ_=>by rw [e,h.B];exact (h2 b hb).1];exact (h2 b hb).2 l hl e
 ·obtain ⟨h1,h2,h3⟩:=h.dn;refine ⟨ok.Ba s D Dc w w' h1 (λb hb=>?_) (λb k hb=>?_), λb hb=>⟨ak (h2 b hb).1 qj.size, λl hl e=>?_⟩, λb k hb=>⟨ak (h3 b k hb).1 qj.size,?_, λa e1 e2=>?_⟩⟩
  ·have hw:=(h2 b hb).2 (.obj b) trivial rfl;exact hkeep b (h2 b hb).1 (VW b (by rw [hw];simp)) (Vf b (by rw [hw];simp) (by rw [hw];simp))
  ·obtain ⟨g1,g2,g3⟩:=h3 b k hb
   by_cases hz:(S.Z i x.Tt).sy b
   ·refine (qj.sy b hz).2 k λhc=>?_
    have :=((dh.cl b k hc).2.2 ⟨b,k,none⟩ rfl rfl).symm.trans (g3 ⟨b,k,none⟩ rfl rfl);cases this
   ·have :=hkeep b g1 (VW b (by rw [g2];simp)) hz;unfold World.cell?;simp only [this]
  ·rw [iA λ_=>by rw [e,h.B];exact (h2 b hb).1];exact (h2 b hb).2 l hl e
  ·rw [iA (l:=.obj b) λ_=>by rw [h.B];exact (h3 b k hb).1];exact (h3 b k hb).2.1
  ·rw [iA (l:=.cell a) λ_=>by rw [h.B];show a.block<_;rw [e1];exact (h3 b k hb).1];exact (h3 b k hb).2.2 a e1 e2
theorem PW {w:World} {t u:Trace} {s:Sh} {γ:Gh} {i j:Nat} {gj:Goroutine} {Bc:TS T} (hj:j≠i) (hu:∀op∈u,op.g=i) (h:One P S w t s γ j gj Bc):One P S w (t++u) s γ j gj Bc:=by
 cases Bc with
 |lv k d=>
  obtain ⟨h1,h2,h3,h4⟩:=h;exact ⟨h1,by rw [Deaf_other t (Ne.symm hj) u hu];exact h2,h3,h4⟩
 |fe x=>
  obtain ⟨h1,h2,h3,h4,h5,h6,h7⟩:=h;exact ⟨h1,h2,h3,by rw [Deaf_other t (Ne.symm hj) u hu];exact h4,h5,h6,h7⟩
theorem Be {e:Event} (h:e.mute=true) (a:Addr):MemAct.ofEvent e≠ .mark (.release a):=by
 obtain ⟨loc,wr,sy⟩:=e;cases loc<;>simp_all [Event.mute];rename_i m;cases m<;>simp_all [MemAct.ofEvent]
theorem MI.leaver {gs:Array Goroutine} {w:World} {t:Trace} {θ:Nat->TS T} {s:Sh} {γ:Gh} {G D:Nat->Prop} {Dc:Nat->Nat->Prop} (h:MI P S AI free O gs w t θ s γ G D Dc)
 {i:Nat} {g:Goroutine} (hi:gs[i]?=some g) {k d:Nat} (hx:θ i= .lv k d) (hrun:g.status= .running):
 ∃k' d' g' es,k=k'+1∧stepG P (i==0) g w= .go g' w es∧MI P S AI free O ((gs.map (woken P g g' w)).setIfInBounds i g') w (t++MemOp.ofEvents i g.frame.fn g.frame.place es) (upd θ i (.lv k' d')) s γ G D Dc:=by
 have h1:=h.one i g hi;rw [hx] at h1;obtain ⟨hq,hd,h0,hna⟩:=h1;have hlt:=(aa.1 hi).1;have e0:(i==0)=false:=by simpa using h0
 cases k with
 |zero=>rw [hq.1] at hrun;cases hrun
 |succ k=>
  rcases hq with ⟨hq,_⟩|⟨_,g',es,hm,hst,hq⟩
  ·rw [hq] at hrun;cases hrun
  ·have hu:∀op∈MemOp.ofEvents i g.frame.fn g.frame.place es,op.g=i:= λop hop=>by obtain ⟨e,_,rfl⟩:=mem_ofEvents hop;rfl
   refine ⟨k,deafBehind d es,g',es,rfl,by rw [e0];exact hst w,⟨λj gj hj=>?_,?_,by simpa using h.pos,?_,h.rep,?_,h.B,by simpa using xU h.nums hlt _ _ _,h.syn,h.nomem,h.memo, λk hk=>by simpa using h.Bb k hk,h.jn,h.dY,h.mE,h.lk,h.dn⟩⟩
   ·rcases xS hj with ⟨rfl,rfl,_⟩|⟨hne,g0,hg0,rfl⟩
    ·rw [upd_same];exact ⟨hq,by rw [Deaf_own,hd],h0,hna⟩
    ·rw [upd_ne hne];exact PW hne hu (GJ (h.one j g0 hg0))
   ·obtain ⟨y,hy⟩:=h.main;exact ⟨y,by rw [upd_ne (Ne.symm h0)];exact hy⟩
   ·have e:stops (upd θ i (.lv k (deafBehind d es)))=stops θ:=by
     funext j;unfold stops
     by_cases hj:j=i
     ·subst hj;rw [upd_same,hx];rfl
     ·rw [upd_ne hj]
    rw [e];simpa using h.ai
   ·exact h.ti.MK (λop hop=>by obtain ⟨e,he,rfl⟩:=mem_ofEvents hop;exact touch_mute (hm e he)) (λop hop a=>by obtain ⟨e,he,rfl⟩:=mem_ofEvents hop;exact Be (hm e he) a)
theorem MI.waits {gs:Array Goroutine} {w:World} {t:Trace} {θ:Nat->TS T} {s:Sh} {γ:Gh} {G D:Nat->Prop} {Dc:Nat->Nat->Prop} (h:MI P S AI free O gs w t θ s γ G D Dc)
 {i:Nat} {x:Tk T} (hi:gs[i]?=some x.g) (hx:θ i= .fe x) (hl:x.tr= .leaf) (hb:S.blk x.Tt s):
 MI P S AI free O (gs.setIfInBounds i { x.g with status:=.blocked }) w t θ s γ G D Dc:=by
 refine ⟨λj gj hj=>?_,h.main,by simpa using h.pos,by simpa using h.ai,h.rep,h.ti,h.B,by simpa using h.nums,h.syn,h.nomem,h.memo, λk hk=>by simpa using h.Bb k hk,h.jn,h.dY,h.mE,h.lk,h.dn⟩;have hj':((gs.map id).setIfInBounds i { x.g with status:=.blocked })[j]?=some gj:=by simpa using hj
 rcases xS hj' with ⟨rfl,rfl,_⟩|⟨hne,g0,hg0,hgj⟩
 ·have h1:=h.one j x.g hi;rw [hx] at h1 ⊢;obtain ⟨_,h2⟩:=h1;exact ⟨.inr ⟨hl,hb,rfl⟩,h2⟩
 ·have :gj=g0:=hgj;rw [this];exact h.one j g0 hg0
end
end Par
end
section
namespace Par
open Go Go.Conc Go.ConcM Go.ConcN
variable {O:Nat->Prop}
theorem EN {t:Trace} {g:Nat}:∀(l:List MemOp),(∀op∈l,op.act≠ .mark .disable∧op.act≠ .mark .enable)->∀m,m<=l.length->(t++(⟨l⟩:Trace)).deaf g (t.size+m)=Deaf t g:=by
 intro l hl m
 induction m with
 |zero=>intro _;exact deaf_old (aj _)
 |succ m ih=>
  intro hm;have hlt:m<l.length:=by omega
  have hget:(t++(⟨l⟩:Trace))[t.size+m]?=some l[m]:=by
   rw [Array.getElem?_append_right (by omega)];simp [hlt]
  rw [<-Nat.add_assoc,deaf_succ hget,ih (by omega)];obtain ⟨h1,h2⟩:=hl l[m] (aI hlt);unfold deafStep;split
  ·rename_i h;exact absurd h h1
  ·rename_i h;exact absurd h h2
  ·rfl
section
variable {T Sh ρ:Type} {P:Program} {S:Sys T Sh} {AI:Nat->(Nat->Option T)->Sh->Prop} {free:Sh->Prop} {rk:Nat->(Nat->Option T)->Sh->ρ} {lt:ρ->ρ->Prop}
theorem PX {γ:Gh} {w w':World} {j:Nat} {Z:eG} {own:Nat->Prop} (yG:∀b,S.syn b->b<w.heap.size∧∀l,dS l->lb l=b->γ.who l= .sy) (h:eU γ w.heap.size j Z own) (hst:cO S w w'):bZ Z own w w':=by
 refine ⟨hst.tape,hst.out,hst.os,by rw [hst.size];exact aj _, λb hb=>hst.rest b λhs=>?_, λb hb=>hst.rest b λhs=>?_, λb hb=>?_, λb k hb=>?_⟩
 ·have :=((yG b hs).2 (.obj b) trivial rfl).symm.trans (h.mF hb);cases this
 ·have :=((yG b hs).2 (.obj b) trivial rfl).symm.trans (h.Ti hb);cases this
 ·by_cases hs:S.syn b
  ·exact hst.xg b hs
  ·rw [hst.rest b hs];exact xg.refl _
 ·have :¬S.syn b:= λhs=>by
   have :=((yG b hs).2 (.cell ⟨b,k,none⟩) trivial rfl).symm.trans ((h.cl b k hb).2.2 ⟨b,k,none⟩ rfl rfl);cases this
  unfold World.cell?;simp only [hst.rest b this]
theorem eU.size {γ:Gh} {n n':Nat} (e:n'=n) {i:Nat} {Z:eG} {own:Nat->Prop} (h:eU γ n i Z own):eU γ n' i Z own:=e ▸ h
theorem TI.PY {t:Trace} {γ:Gh} {i:Nat} {w:World} {s:Sh} {k:Kind} {es:Array Event} (h:TI γ t) (hB:γ.B=w.heap.size) (yG:∀b,S.syn b->b<w.heap.size∧∀l,dS l->lb l=b->γ.who l= .sy) (hno:∀l,¬dS l->γ.who l= .fr)
 (hl:γ.live i) (hk:k.plain=true) (he:QX S s k es) (hp:(i=0∨γ.act i)∨(k≠ .clock∧(k= .atomic->0<Deaf t i))) (hsaid:k= .said->i=0) (fn:FuncId) (pos:String):TI γ (t++MemOp.ofEvents i fn pos es):=by
 have marks:∀m:Mark,(∀a,m≠ .read a∧m≠ .write a∧m≠ .release a)->es= #[⟨.mark m,false,true⟩]->TI γ (t++MemOp.ofEvents i fn pos es):=by
  intro m hm e;subst e;refine h.MK (λop hop=>?_) (λop hop a=>?_)
  ·obtain ⟨e,he,rfl⟩:=mem_ofEvents hop;simp at he;subst he;have :(MemAct.ofEvent ⟨.mark m,false,true⟩)= .mark m:=rfl;simp only [this];cases m<;>first |rfl|exact absurd rfl (hm _).1|exact absurd rfl (hm _).2.1
  ·obtain ⟨e,he,rfl⟩:=mem_ofEvents hop;simp at he;subst he;intro hx;have hx:MemAct.mark m= .mark (.release a):=hx;cases hx;exact (hm a).2.2 rfl
 have hg:∀op∈MemOp.ofEvents i fn pos es,op.g=i:= λop hop=>by obtain ⟨e,_,rfl⟩:=mem_ofEvents hop;rfl
 cases k with
 |disable=>exact marks .disable (λa=>⟨by simp,by simp,by simp⟩) he
 |enable=>exact marks .enable (λa=>⟨by simp,by simp,by simp⟩) he
 |atomic=>
  have he:∀e∈es,∃a,e.loc= .cell a∧e.sync=true∧S.syn a.block:=he
  have tch:∀op∈MemOp.ofEvents i fn pos es,∃a wr,op.act= .access ⟨.cell a,wr,true⟩∧S.syn a.block:=by
   intro op hop;obtain ⟨e,hem,rfl⟩:=mem_ofEvents hop;obtain ⟨a,h1,h2,h3⟩:=he e hem;obtain ⟨loc,wr,sy⟩:=e;simp only at h1 h2;subst h1 h2;exact ⟨a,wr,by cases wr<;>rfl,h3⟩
  have hrel:∀op∈MemOp.ofEvents i fn pos es,∀a,op.act≠ .mark (.release a):=by
   intro op hop a e;obtain ⟨b,wr,h1,_⟩:=tch op hop;rw [h1] at e;cases e
  rcases hp with hp|⟨_,hp⟩
  ·have :=h.app (B':=γ.B) (aj _) hl hg (λop hop x hx=>?_) hp hrel
   ·exact this
   ·obtain ⟨a,wr,h1,h2⟩:=tch op hop;rw [h1] at hx;have :x=⟨.cell a,wr,.atomic⟩:=(aD hx).symm;subst this;exact ⟨.inr (.inr (.inl ⟨(yG _ h2).2 _ trivial rfl,by simp,by simp⟩)), λ_=>by rw [hB];exact (yG _ h2).1⟩
  ·refine h.Ob hl hg (λop hop x hx=>?_) (λp op hge hop hp' hc=>?_) hrel
   ·obtain ⟨a,wr,h1,h2⟩:=tch op hop;rw [h1] at hx;have :x=⟨.cell a,wr,.atomic⟩:=(aD hx).symm;subst this;exact ⟨(yG _ h2).2 _ trivial rfl,rfl, λ_=>by rw [hB];exact (yG _ h2).1⟩
   ·obtain ⟨a,wr,h1,h2⟩:=tch op hop;obtain ⟨x,hx,_,hor⟩:=hc;have hx':touchAt (t++MemOp.ofEvents i fn pos es) p=some x:=hx;rw [touchAt_of hp',h1] at hx';have :x=⟨.cell a,wr,.atomic⟩:=(aD hx').symm;subst this;rcases hor with hor|⟨g',hg1,hg2⟩
    ·exact hor rfl
    ·have hgi:g'=i:=by
      have :(t++MemOp.ofEvents i fn pos es).g? p=some op.g:=by simp [Trace.g?,hp']
      rw [this] at hg1;exact (aD hg1).symm.trans (hg op hop)
     subst hgi;have hd:=hp rfl;obtain ⟨m,rfl⟩:=Nat.exists_eq_add_of_le hge
     have hm:m<=(MemOp.ofEvents g' fn pos es).toList.length:=by
      have :=lt_size_of_getElem? hp';simp at this ⊢;omega
     have :=EN (t:=t) (g:=g') (MemOp.ofEvents g' fn pos es).toList (λop hop=>?_) m hm
     ·rw [show (⟨(MemOp.ofEvents g' fn pos es).toList⟩:Trace)=MemOp.ofEvents g' fn pos es from rfl,hg2] at this;omega
     ·obtain ⟨a,wr,h1,_⟩:=tch op (by simpa using hop);rw [h1];exact ⟨by simp,by simp⟩
 |clock=>
  have he:∀e∈es,e.loc= .output:=he;rcases hp with hp|⟨hp,_⟩
  ·have :=h.app (B':=γ.B) (aj _) hl hg (λop hop x hx=>?_) hp (λop hop a e=>?_)
   ·exact this
   ·obtain ⟨e,hem,rfl⟩:=mem_ofEvents hop;have :=he e hem;obtain ⟨loc,wr,sy⟩:=e;simp only at this;subst this
    have hx1:x.loc= .output:=by
     have :(MemAct.ofEvent ⟨.output,wr,sy⟩).touch?=some ⟨.output,wr,if sy then .atomic else .plain⟩:=by cases wr<;>cases sy<;>rfl
     rw [this] at hx;rw [<-aD hx]
    exact ⟨.inr (.inr (.inr ⟨by rw [hx1];exact hno _ (λx=>x),by rw [hx1];exact λx=>x⟩)), λhm=>by rw [hx1] at hm;exact hm.elim⟩
   ·obtain ⟨e',hem,rfl⟩:=mem_ofEvents hop;have :=he e' hem;obtain ⟨loc,wr,sy⟩:=e';simp only at this;subst this;cases wr<;>cases sy<;>cases e
  ·exact absurd rfl hp
 |sem=>
  obtain ⟨a,ha,rfl⟩:∃a:Addr,S.syn a.block∧es= #[⟨.mark .disable,false,true⟩,⟨.cell a,false,true⟩,⟨.cell a,true,true⟩,⟨.mark .enable,false,true⟩]:=he
  have e:t++MemOp.ofEvents i fn pos #[⟨.mark .disable,false,true⟩,⟨.cell a,false,true⟩,⟨.cell a,true,true⟩,⟨.mark .enable,false,true⟩]=
   ((t++ #[{ g:=i,fn:=fn,pos:=pos,act:=.mark .disable }])++ #[{ g:=i,fn:=fn,pos:=pos,act:=.access ⟨.cell a,false,true⟩ },{ g:=i,fn:=fn,pos:=pos,act:=.access ⟨.cell a,true,true⟩ }])++ #[{ g:=i,fn:=fn,pos:=pos,act:=.mark .enable }]:=by
   rw [ofEvents_eq];apply Array.ext';simp [MemAct.ofEvent]
  rw [e];have h1:TI γ (t++ #[{ g:=i,fn:=fn,pos:=pos,act:=.mark .disable }]):=h.still rfl (by simp)
  have hd1:Deaf (t++ #[{ g:=i,fn:=fn,pos:=pos,act:=.mark .disable }]) i=Deaf t i+1:=by
   rw [Deaf_push];unfold deafStep;simp
  refine TI.still ?_ rfl (by simp)
  generalize t++ #[{ g:=i,fn:=fn,pos:=pos,act:=.mark .disable }]=t1 at h1 hd1;refine h1.Ob hl (λop hop=>?_) (λop hop x hx=>?_) (λp op hge hop hp' hc=>?_) (λop hop b e=>?_)
  ·have :op= { g:=i,fn:=fn,pos:=pos,act:=.access ⟨.cell a,false,true⟩ }∨op= { g:=i,fn:=fn,pos:=pos,act:=.access ⟨.cell a,true,true⟩ }:=by simpa using hop
   rcases this with rfl|rfl<;>rfl
  ·have :op= { g:=i,fn:=fn,pos:=pos,act:=.access ⟨.cell a,false,true⟩ }∨op= { g:=i,fn:=fn,pos:=pos,act:=.access ⟨.cell a,true,true⟩ }:=by simpa using hop
   rcases this with rfl|rfl
   ·have :x=⟨.cell a,false,.atomic⟩:=(aD hx).symm;subst this;exact ⟨(yG _ ha).2 _ trivial rfl,rfl, λ_=>by rw [hB];exact (yG _ ha).1⟩
   ·have :x=⟨.cell a,true,.atomic⟩:=(aD hx).symm;subst this;exact ⟨(yG _ ha).2 _ trivial rfl,rfl, λ_=>by rw [hB];exact (yG _ ha).1⟩
  ·have two:op= { g:=i,fn:=fn,pos:=pos,act:=.access ⟨.cell a,false,true⟩ }∨op= { g:=i,fn:=fn,pos:=pos,act:=.access ⟨.cell a,true,true⟩ }:=by simpa using hop
   have og:op.g=i:=by rcases two with rfl|rfl<;>rfl
   obtain ⟨x,hx,_,hor⟩:=hc;have hx':touchAt (t1++ #[{ g:=i,fn:=fn,pos:=pos,act:=.access ⟨.cell a,false,true⟩ },{ g:=i,fn:=fn,pos:=pos,act:=.access ⟨.cell a,true,true⟩ }]) p=some x:=hx;rw [touchAt_of hp'] at hx'
   have hxk:x.kind= .atomic:=by
    rcases two with rfl|rfl
    ·rw [<-aD hx'];rfl
    ·rw [<-aD hx'];rfl
   rcases hor with hor|⟨g',hg1,hg2⟩
   ·exact hor hxk
   ·have hgi:g'=i:=by
     have :Trace.g? (t1++ #[{ g:=i,fn:=fn,pos:=pos,act:=.access ⟨.cell a,false,true⟩ },{ g:=i,fn:=fn,pos:=pos,act:=.access ⟨.cell a,true,true⟩ }]) p=some op.g:=by simp [Trace.g?,hp']
     rw [this] at hg1;exact (aD hg1).symm.trans og
    subst hgi;obtain ⟨m,rfl⟩:=Nat.exists_eq_add_of_le hge
    have hm:m<= [({ g:=g',fn:=fn,pos:=pos,act:=.access ⟨.cell a,false,true⟩ }:MemOp),{ g:=g',fn:=fn,pos:=pos,act:=.access ⟨.cell a,true,true⟩ }].length:=by
     have :=lt_size_of_getElem? hp';simp at this ⊢;omega
    have :=EN (t:=t1) (g:=g') [({ g:=g',fn:=fn,pos:=pos,act:=.access ⟨.cell a,false,true⟩ }:MemOp),{ g:=g',fn:=fn,pos:=pos,act:=.access ⟨.cell a,true,true⟩ }] (λop hop=>by simp at hop;rcases hop with rfl|rfl<;>simp) m hm;rw [hg2,hd1] at this;omega
  ·have :op= { g:=i,fn:=fn,pos:=pos,act:=.access ⟨.cell a,false,true⟩ }∨op= { g:=i,fn:=fn,pos:=pos,act:=.access ⟨.cell a,true,true⟩ }:=by simpa using hop
   rcases this with rfl|rfl<;>cases e
 |said=>
  have h0:=hsaid rfl;subst h0;obtain ⟨a,ha,hor⟩:∃a:Addr,S.syn a.block∧(es= #[⟨.mark (.read a),false,true⟩]∨es= #[⟨.mark (.write a),false,true⟩]):=he;have :=h.app (B':=γ.B) (aj _) hl hg (λop hop x hx=>?_) (.inl rfl) (λop hop b e=>?_)
  ·exact this
  ·obtain ⟨e,hem,rfl⟩:=mem_ofEvents hop
   have hx1:x.loc= .cell a∧x.kind= .said:=by
    rcases hor with rfl|rfl<;>simp at hem<;>subst hem
    ·have :x=⟨.cell a,false,.said⟩:=(aD hx).symm;subst this;exact ⟨rfl,rfl⟩
    ·have :x=⟨.cell a,true,.said⟩:=(aD hx).symm;subst this;exact ⟨rfl,rfl⟩
   exact ⟨.inr (.inr (.inl ⟨by rw [hx1.1];exact (yG _ ha).2 _ trivial rfl,by rw [hx1.2];simp, λ_=>rfl⟩)), λ_=>by rw [hx1.1,hB];exact (yG _ ha).1⟩
  ·obtain ⟨e',hem,rfl⟩:=mem_ofEvents hop;rcases hor with rfl|rfl<;>simp at hem<;>subst hem<;>cases e
 |_=>cases hk
theorem jQ {s:Sh} {k:Kind} {es:Array Event} (he:QX S s k es) (d:Nat):deafBehind d es=Kind.iJ d k:=by
 have one:∀m:Mark,m≠ .disable->m≠ .enable->es= #[⟨.mark m,false,true⟩]->deafBehind d es=d:=by
  intro m h1 h2 e;subst e;exact deafBehind_still (λe he=>by simp at he;subst he;exact ⟨by simpa using h1,by simpa using h2⟩) d
 cases k with
 |atomic=>exact deafBehind_still (λe hem=>by obtain ⟨a,h1,_⟩:=(show ∀e∈es,∃a,e.loc= .cell a∧e.sync=true∧S.syn a.block from he) e hem;rw [h1];exact ⟨by simp,by simp⟩) d
 |clock=>exact deafBehind_still (λe hem=>by have h1:=(show ∀e∈es,e.loc= .output from he) e hem;rw [h1];exact ⟨by simp,by simp⟩) d
 |disable=>have he:es=_:=he;subst he;rfl
 |enable=>have he:es=_:=he;subst he;rfl
 |sem=>obtain ⟨a,_,rfl⟩:=(show ∃a:Addr,S.syn a.block∧es= #[⟨.mark .disable,false,true⟩,⟨.cell a,false,true⟩,⟨.cell a,true,true⟩,⟨.mark .enable,false,true⟩] from he);simp [deafBehind,Kind.iJ]
 |said=>
  obtain ⟨a,_,h1|h1⟩:=(show ∃a:Addr,S.syn a.block∧(es= #[⟨.mark (.read a),false,true⟩]∨es= #[⟨.mark (.write a),false,true⟩]) from he)
  ·exact one _ (by simp) (by simp) h1
  ·exact one _ (by simp) (by simp) h1
 |sU=>obtain ⟨a,_,h1⟩:=(show ∃a,S.dY s=some a∧es= #[⟨.mark (.acquire a),false,true⟩] from he);exact one _ (by simp) (by simp) h1
 |sV=>obtain ⟨a,_,h1⟩:=(show ∃a,S.dY s=some a∧es= #[⟨.mark (.releaseMerge a),false,true⟩] from he);exact one _ (by simp) (by simp) h1
 |done=>obtain ⟨a,_,h1⟩:=(show ∃a,S.mE s=some a∧es= #[⟨.mark (.releaseMerge a),false,true⟩] from he);exact one _ (by simp) (by simp) h1
 |join=>obtain ⟨a,_,h1⟩:=(show ∃a,S.mE s=some a∧es= #[⟨.mark (.acquire a),false,true⟩] from he);exact one _ (by simp) (by simp) h1
theorem EO {w w2:World} {t:Trace} {s s':Sh} {γ:Gh} {j:Nat} {gj g g':Goroutine} {Bc:TS T} (h:One P S w t s γ j gj Bc)
 (hb:∀y,Bc= .fe y->S.blk y.Tt s->S.blk y.Tt s'∨(mayWake P g=true∧g'.status≠ .blocked∧g'.status≠ .waiting)):One P S w t s' γ j (woken P g g' w2 gj) Bc:=by
 cases Bc with
 |lv k d=>obtain ⟨h1,h2⟩:=h;exact ⟨by rw [woken_quitsD h1];exact h1,h2⟩
 |fe x=>
  obtain ⟨h1,h2,h3⟩:=h;have hrun:x.g.status= .running:=h2.running λ_ _ _=>jL
  refine ⟨?_,h2,h3⟩;rcases h1 with rfl|⟨hl,hbl,rfl⟩
  ·left;unfold woken;split
   ·exact again_running _ (.inl hrun)
   ·rfl
  ·have hoff:x.g.offers=none:=by
    rw [hl] at h2;exact GI (h2 x.W (bZ.refl _)) hbl
   unfold woken;split
   ·exact .inl (again_blocked hrun hoff _)
   ·rename_i hw;rcases hb x rfl hbl with hb|⟨h4,h5,h6⟩
    ·exact .inr ⟨hl,hb,rfl⟩
    ·exfalso;apply hw;simp [h4,h5,h6]
theorem vo {X:jX T} (hst:∀i Tt own g W,X i Tt own g W->g.status= .running) {i:Nat} {Tt:T} {own:Nat->Prop} {g:Goroutine} {W:World} (h:On P S X i Tt own g W):g.status≠ .blocked∧g.status≠ .waiting:=by
 unfold On at h;split at h
 ·obtain ⟨q,hq⟩:=h;rcases hq.status with h|h<;>rw [h]<;>exact ⟨by simp,by simp⟩
 ·obtain ⟨tr,htr⟩:=h.rank;have :=htr.running (hst i Tt);rw [this];exact ⟨by simp,by simp⟩
theorem Km {w w':World} {t u:Trace} {s0:Sh} {γ:Gh} {i j:Nat} {gj:Goroutine} {Bc:TS T} (hj:j≠i) (hu:∀op∈u,op.g=i) (yG:∀b,S.syn b->b<w.heap.size∧∀l,dS l->lb l=b->γ.who l= .sy) (hst:cO S w w')
 (h:One P S w t s0 γ j gj Bc):One P S w' (t++u) s0 γ j gj Bc:=by
 cases Bc with
 |lv k d=>
  obtain ⟨h1,h2,h3,h4⟩:=h;exact ⟨h1,by rw [Deaf_other t (Ne.symm hj) u hu];exact h2,h3,h4⟩
 |fe x=>
  obtain ⟨h1,h2,h3,h4,h5,h6,h7⟩:=h;exact ⟨h1,h2,h3.trans (PX yG h7 hst),by rw [Deaf_other t (Ne.symm hj) u hu];exact h4,h5,h6,h7.size hst.size⟩
theorem MI.PZ {gs:Array Goroutine} {w:World} {t:Trace} {θ:Nat->TS T} {s:Sh} {γ:Gh} {G D:Nat->Prop} {Dc:Nat->Nat->Prop} (ok:sW S AI free rk lt) (h:MI P S AI free O gs w t θ s γ G D Dc)
 {i:Nat} {x:Tk T} (hi:gs[i]?=some x.g) (hx:θ i= .fe x) {T':T} {s':Sh} {g':Goroutine} {w':World} {es:Array Event}
 (hf:S.fork x.Tt=false) (hr:S.ret x.Tt=false) (hb:¬S.blk x.Tt s) (hmv:S.mv i x.Tt s T' s') (hwk:S.wakes x.Tt=true->mayWake P x.g=true) (hrep:S.Dk s' w') (hst:cO S w w') (he:QX S s (S.kind x.Tt) es) (hk:(S.kind x.Tt).plain=true)
 (hon:On P S (At P S) i T' x.own g' w'):
 ∃sZ,MI P S AI free O ((gs.map (woken P x.g g' w')).setIfInBounds i g') w' (t++MemOp.ofEvents i x.g.frame.fn x.g.frame.place es) (upd θ i sZ) s' γ G D Dc∧stops (upd θ i sZ)=upd (stops θ) i (if S.quit T' then none else some T'):=by
 have h1:=h.one i x.g hi;rw [hx] at h1;obtain ⟨_,Oe,EM,hDeaf,mU,Ch,dh⟩:=h1;have hlt:=(aa.1 hi).1;have hφ:stops θ i=some x.Tt:=by unfold stops;rw [hx];rfl
 obtain ⟨hsame,hZ,hpast⟩:=ok.plain h.ai hlt hφ hmv hk;have hdf:=ok.iJ h.ai hlt hφ hmv;obtain ⟨hai,_⟩:=ok.move h.ai hlt hφ hf hr hb hmv;obtain ⟨ap5,ap6⟩:=ok.IX h.ai hlt hφ;have hu:∀op∈MemOp.ofEvents i x.g.frame.fn x.g.frame.place es,op.g=i:= λop hop=>by obtain ⟨e,_,rfl⟩:=mem_ofEvents hop;rfl
 have ah3:=vo (λ_ _ _ _ _=>jL) hon
 obtain ⟨sZ,Bf⟩:∃sZ:TS T,One P S w' (t++MemOp.ofEvents i x.g.frame.fn x.g.frame.place es) s' γ i g' sZ∧sZ.stop?=(if S.quit T' then none else some T')∧(i=0->∃y,sZ= .fe y):=by
  have hd:Deaf (t++MemOp.ofEvents i x.g.frame.fn x.g.frame.place es) i=S.deaf T':=by rw [Deaf_own,jQ he,hDeaf,hdf]
  unfold On at hon
  by_cases hq:S.quit T'=true
  ·rw [if_pos hq] at hon;obtain ⟨q,hq'⟩:=hon;obtain ⟨hp,h0⟩:=ok.quits h.ai hlt hφ hmv hq;refine ⟨.lv q (S.deaf T'),⟨hq',hd,h0, λha=>?_⟩,by rw [if_pos hq];rfl, λe=>absurd e h0⟩;have :=(Ch h0).1 ha;rw [<-hpast,hp] at this;cases this
  ·rw [if_neg hq] at hon;obtain ⟨tr,htr⟩:=hon.rank;refine ⟨.fe ⟨T',x.own,g',w',tr⟩,⟨.inl rfl,htr,bZ.refl _,hd,mU, λh0=>by rw [hpast];exact Ch h0,?_⟩,by rw [if_neg hq];rfl, λ_=>⟨_,rfl⟩⟩;show eU γ w'.heap.size i (S.Z i T') x.own;rw [hZ];exact dh.size hst.size
 have EP:∀b,γ.who (.obj b)≠ .sy->w'.heap[b]?=w.heap[b]?:= λb hb=>hst.rest b λhs=>hb ((h.syn b (.inl hs)).2 (.obj b) trivial rfl)
 refine ⟨sZ,⟨λj gj hj=>?_,?_,by simpa using h.pos,?_,hrep,?_,h.B.trans hst.size.symm,by simpa using xU h.nums hlt _ _ _, λb hb=>?_,h.nomem,h.memo, λk hk=>by simpa using h.Bb k hk, λhj=>h.jn (hsame.mE ▸ hj),h.dY.trans hsame.dY.symm,h.mE.trans hsame.mE.symm, λhfr=>?_,?_⟩,?_⟩
 ·rcases xS hj with ⟨rfl,rfl,_⟩|⟨hne,g0,hg0,rfl⟩
  ·rw [upd_same];exact Bf.1
  ·rw [upd_ne hne];refine Km hne hu (λb hb=>h.syn b (.inl hb)) hst (EO (h.one j g0 hg0) λy hy hbl=>?_);cases hw:S.wakes x.Tt with
   |true=>exact .inr ⟨hwk hw,ah3⟩
   |false=>
    have Tn:stops θ j=some y.Tt:=by unfold stops;rw [hy];rfl
    exact .inl (ok.stay h.ai hlt hφ hb hw (.inl hmv) j y.Tt (aa.1 hg0).1 hne Tn hbl)
 ·by_cases h0:(0:Nat)=i
  ·obtain ⟨y,hy⟩:=Bf.2.2 h0.symm;exact ⟨y,by rw [h0,upd_same];exact hy⟩
  ·obtain ⟨y,hy⟩:=h.main;exact ⟨y,by rw [upd_ne h0];exact hy⟩
 ·have e:stops (upd θ i sZ)=upd (stops θ) i (if S.quit T' then none else some T'):=by
   funext j;unfold stops
   by_cases hj:j=i
   ·subst hj;rw [upd_same,upd_same];exact Bf.2.1
   ·rw [upd_ne hj,upd_ne hj]
  rw [e];simpa using hai
 ·refine h.ti.PY h.B (λb hb=>h.syn b (.inl hb)) h.nomem mU hk he ?_ ap6 _ _
  by_cases h0:i=0
  ·exact .inl (.inl h0)
  ·cases hp:S.past x.Tt with
   |false=>exact .inl (.inr ((Ch h0).2 hp))
   |true=>
    obtain ⟨_,_,h2,h3⟩:=ap5 hp;exact .inr ⟨h2, λe=>by rw [hDeaf];exact h3 e⟩
 ·have :=h.syn b hb;exact ⟨by rw [hst.size];exact this.1,this.2⟩
 ·obtain ⟨h2,h3⟩:=h.lk (hsame.free.1 hfr);refine ⟨ok.xR s' G w w' (hsame.J G w h2) λb hb=>EP b ?_, λb hb=>⟨by rw [hst.size];exact (h3 b hb).1,(h3 b hb).2⟩⟩;rw [(h3 b hb).2 (.obj b) trivial rfl];simp
 ·obtain ⟨h2,h3,h4⟩:=h.dn;refine ⟨ok.Ba s' D Dc w w' (hsame.Dp D Dc w h2) (λb hb=>EP b ?_) (λb k hb=>?_), λb hb=>⟨by rw [hst.size];exact (h3 b hb).1,(h3 b hb).2⟩, λb k hb=>⟨by rw [hst.size];exact (h4 b k hb).1,(h4 b k hb).2⟩⟩
  ·rw [(h3 b hb).2 (.obj b) trivial rfl];simp
  ·obtain ⟨g1,g2,g3⟩:=h4 b k hb
   have :¬S.syn b:= λhs=>by
    have :=((h.syn b (.inl hs)).2 (.cell ⟨b,k,none⟩) trivial rfl).symm.trans (g3 ⟨b,k,none⟩ rfl rfl);cases this
   unfold World.cell?;simp only [hst.rest b this]
 ·funext j;unfold stops
  by_cases hj:j=i
  ·subst hj;rw [upd_same,upd_same];exact Bf.2.1
  ·rw [upd_ne hj,upd_ne hj]
end
end Par
end
section
namespace Par
open Go Go.Conc Go.ConcM Go.ConcN
variable {O:Nat->Prop}
section
variable {T Sh ρ:Type} {P:Program} {S:Sys T Sh} {AI:Nat->(Nat->Option T)->Sh->Prop} {free:Sh->Prop} {rk:Nat->(Nat->Option T)->Sh->ρ} {lt:ρ->ρ->Prop}
theorem ER {w:World} {t:Trace} {s:Sh} {γ γ':Gh} {j:Nat} {gj:Goroutine} {Bc:TS T} (h:One P S w t s γ j gj Bc)
 (hr:∀y,Bc= .fe y->eU γ w.heap.size j (S.Z j y.Tt) y.own->eU γ' w.heap.size j (S.Z j y.Tt) y.own) (hl:γ.live j->γ'.live j) (ha:γ'.act j↔γ.act j):One P S w t s γ' j gj Bc:=by
 cases Bc with
 |lv k d=>obtain ⟨h1,h2,h3,h4⟩:=h;exact ⟨h1,h2,h3, λx=>h4 (ha.1 x)⟩
 |fe x=>
  obtain ⟨h1,h2,h3,h4,h5,h6,h7⟩:=h;exact ⟨h1,h2,h3,h4,hl h5, λh0=>ha.trans (h6 h0),hr x rfl h7⟩
theorem Ci {θ:Nat->TS T} {i:Nat} {sZ:TS T} {o:Option T} (h:sZ.stop?=o):stops (upd θ i sZ)=upd (stops θ) i o:=by
 funext j;unfold stops
 by_cases hj:j=i
 ·subst hj;rw [upd_same,upd_same];exact h
 ·rw [upd_ne hj,upd_ne hj]
theorem MI.hand {gs:Array Goroutine} {w:World} {t:Trace} {θ:Nat->TS T} {s:Sh} {γ:Gh} {G D:Nat->Prop} {Dc:Nat->Nat->Prop} (ok:sW S AI free rk lt) (h:MI P S AI free O gs w t θ s γ G D Dc)
 {i:Nat} {x:Tk T} (hi:gs[i]?=some x.g) (hx:θ i= .fe x) {T':T} {s':Sh} {g':Goroutine} {w':World} {es:Array Event} {γ':Gh} {sZ:TS T} {G' D':Nat->Prop} {FM:Nat->Nat->Prop}
 (hf:S.fork x.Tt=false) (hr:S.ret x.Tt=false) (hb:¬S.blk x.Tt s) (hmv:S.mv i x.Tt s T' s') (hwk:S.wakes x.Tt=true->mayWake P x.g=true) (hrep:S.Dk s' w') (hst:cO S w w')
 (hnb:g'.status≠ .blocked∧g'.status≠ .waiting)
 (hti:TI γ' (t++MemOp.ofEvents i x.g.frame.fn x.g.frame.place es)) (hB:γ'.B=γ.B)
 (Bf:One P S w' (t++MemOp.ofEvents i x.g.frame.fn x.g.frame.place es) s' γ' i g' sZ) (hstop:sZ.stop?=if S.quit T' then none else some T') (hmain:i=0->∃y,sZ= .fe y)
 (Y2:∀j y,j≠i->θ j= .fe y->j<gs.size->eU γ w.heap.size j (S.Z j y.Tt) y.own->eU γ' w.heap.size j (S.Z j y.Tt) y.own)
 (hlive:∀j,j≠i->γ.live j->γ'.live j) (hact:∀j,j≠i->(γ'.act j↔γ.act j))
 (hsy:∀l,γ.who l= .sy->γ'.who l= .sy) (Y3:∀l,¬dS l->γ'.who l= .fr) (ah4:∀l,dS l->γ'.who l≠ .fr∧(γ'.who l= .sy->S.syn (lb l)∨O (lb l)))
 (hjn:S.mE s'=none->∀l,dS l->¬(S.syn (lb l)∨O (lb l))->γ'.who l= .fe 0) (hla:γ'.lock=S.dY s') (hwa:γ'.wg=S.mE s')
 (hlk:free s'->S.J s' G' w'∧∀b,G' b->b<w'.heap.size∧∀l,dS l->lb l=b->γ'.who l= .lk)
 (hdn:S.Dp s' D' FM w'∧(∀b,D' b->b<w'.heap.size∧∀l,dS l->lb l=b->γ'.who l= .dn)∧∀b k,FM b k->b<w'.heap.size∧γ'.who (.obj b)= .pt∧∀a:Addr,a.block=b->a.off=k->γ'.who (.cell a)= .dn):
 MI P S AI free O ((gs.map (woken P x.g g' w')).setIfInBounds i g') w' (t++MemOp.ofEvents i x.g.frame.fn x.g.frame.place es) (upd θ i sZ) s' γ' G' D' FM∧stops (upd θ i sZ)=upd (stops θ) i (if S.quit T' then none else some T'):=by
 have hlt:=(aa.1 hi).1;have hφ:stops θ i=some x.Tt:=by unfold stops;rw [hx];rfl
 obtain ⟨hai,_⟩:=ok.move h.ai hlt hφ hf hr hb hmv;have hu:∀op∈MemOp.ofEvents i x.g.frame.fn x.g.frame.place es,op.g=i:= λop hop=>by obtain ⟨e,_,rfl⟩:=mem_ofEvents hop;rfl
 have hst':=Ci (θ:=θ) (i:=i) hstop;refine ⟨⟨λj gj hj=>?_,?_,by simpa using h.pos,by rw [hst'];simpa using hai,hrep,hti,hB.trans (h.B.trans hst.size.symm),by simpa using xU h.nums hlt _ _ _, λb hb=>?_,Y3,ah4, λk hk=>?_,hjn,hla,hwa,hlk,hdn⟩,hst'⟩
 ·rcases xS hj with ⟨rfl,rfl,_⟩|⟨hne,g0,hg0,rfl⟩
  ·rw [upd_same];exact Bf
  ·rw [upd_ne hne];have hjlt:=(aa.1 hg0).1
   have h1:One P S w t s' γ j (woken P x.g g' w' g0) (θ j):=EO (h.one j g0 hg0) λy hy hbl=>by
    cases hw:S.wakes x.Tt with
    |true=>exact .inr ⟨hwk hw,hnb⟩
    |false=>
     have Tn:stops θ j=some y.Tt:=by unfold stops;rw [hy];rfl
     exact .inl (ok.stay h.ai hlt hφ hb hw (.inl hmv) j y.Tt hjlt hne Tn hbl)
   have h2:=Km hne hu (λb hb=>h.syn b (.inl hb)) hst h1;exact ER h2 (λy hy hR=>(Y2 j y hne hy hjlt (hR.size hst.size.symm)).size hst.size) (hlive j hne) (hact j hne)
 ·by_cases h0:(0:Nat)=i
  ·obtain ⟨y,hy⟩:=hmain h0.symm;exact ⟨y,by rw [h0,upd_same];exact hy⟩
  ·obtain ⟨y,hy⟩:=h.main;exact ⟨y,by rw [upd_ne h0];exact hy⟩
 ·have :=h.syn b hb;exact ⟨by rw [hst.size];exact this.1, λl hl e=>hsy l (this.2 l hl e)⟩
 ·by_cases hki:k=i
  ·subst hki;simpa using hlt
  ·simpa using h.Bb k ((hact k hki).1 hk)
theorem hd1 {i:Nat} {fn:FuncId} {pos:String} {m:Mark}:MemOp.ofEvents i fn pos #[⟨.mark m,false,true⟩]= #[{ g:=i,fn:=fn,pos:=pos,act:=.mark m }]:=by rw [ofEvents_eq];simp [MemAct.ofEvent]
theorem tq {w':World} {t':Trace} {s':Sh} {γ':Gh} {i:Nat} {g':Goroutine} {T':T} {own':Nat->Prop} (hq:S.quit T'=false) (hon:On P S (At P S) i T' own' g' w') (hd:Deaf t' i=S.deaf T') (hl:γ'.live i) (ha:i≠0->(γ'.act i↔S.past T'=false))
 (hR:eU γ' w'.heap.size i (S.Z i T') own'):∃sZ:TS T,One P S w' t' s' γ' i g' sZ∧sZ.stop?=(if S.quit T' then none else some T')∧∃y,sZ= .fe y:=by
 unfold On at hon;have hnq:¬S.quit T'=true:=by rw [hq];simp
 rw [if_neg hnq] at hon;obtain ⟨tr,htr⟩:=hon.rank;exact ⟨.fe ⟨T',own',g',w',tr⟩,⟨.inl rfl,htr,bZ.refl _,hd,hl,ha,hR⟩,by rw [if_neg hnq];rfl,_,rfl⟩
theorem eU.turn {γ γ':Gh} {n j:Nat} {Z:eG} {own:Nat->Prop} (k:eU γ n j Z own) (h:∀l,γ'.who l=γ.who l∨(γ.who l≠ .fe j∧γ.who l≠ .ro∧γ.who l≠ .sy∧γ.who l≠ .pt)):eU γ' n j Z own:=by
 refine ⟨λb hb=>⟨(k.own b hb).1, λl h1 h2=>?_⟩, λb c hb=>⟨(k.cl b c hb).1,?_, λa e1 e2=>?_⟩, λb hb=>⟨(k.ro b hb).1, λl h1 h2=>?_⟩, λb hb=>⟨(k.sy b hb).1,?_⟩⟩
 ·have e:=(k.own b hb).2 l h1 h2;rcases h l with e'|⟨e',_⟩
  ·rw [e'];exact e
  ·exact absurd e e'
 ·have e:=(k.cl b c hb).2.1;rcases h (.obj b) with e'|⟨_,_,_,e'⟩
  ·rw [e'];exact e
  ·exact absurd e e'
 ·have e:=(k.cl b c hb).2.2 a e1 e2;rcases h (.cell a) with e'|⟨e',_⟩
  ·rw [e'];exact e
  ·exact absurd e e'
 ·have e:=(k.ro b hb).2 l h1 h2;rcases h l with e'|⟨_,e',_⟩
  ·rw [e'];exact e
  ·exact absurd e e'
 ·rcases h (.obj b) with e'|⟨_,_,e1,e2⟩
  ·rw [e'];exact (k.sy b hb).2
  ·rcases (k.sy b hb).2 with e|e
   ·exact absurd e e1
   ·exact absurd e e2
theorem MI.EP {gs:Array Goroutine} {w w':World} {t:Trace} {θ:Nat->TS T} {s:Sh} {γ:Gh} {G D:Nat->Prop} {Dc:Nat->Nat->Prop} (h:MI P S AI free O gs w t θ s γ G D Dc) (hst:cO S w w') {b:Nat} (hb:γ.who (.obj b)≠ .sy):w'.heap[b]?=w.heap[b]?:=
 hst.rest b λhs=>hb ((h.syn b (.inl hs)).2 (.obj b) trivial rfl)
theorem MI.IY {gs:Array Goroutine} {w w':World} {t:Trace} {θ:Nat->TS T} {s s':Sh} {γ γ':Gh} {G D:Nat->Prop} {Dc:Nat->Nat->Prop} (ok:sW S AI free rk lt) (h:MI P S AI free O gs w t θ s γ G D Dc) (hst:cO S w w')
 (hw:∀l,γ'.who l=γ.who l∨(γ.who l≠ .dn∧γ.who l≠ .pt)) (hD:∀D Dc w,S.Dp s D Dc w->S.Dp s' D Dc w):
 S.Dp s' D Dc w'∧(∀b,D b->b<w'.heap.size∧∀l,dS l->lb l=b->γ'.who l= .dn)∧∀b k,Dc b k->b<w'.heap.size∧γ'.who (.obj b)= .pt∧∀a:Addr,a.block=b->a.off=k->γ'.who (.cell a)= .dn:=by
 obtain ⟨d1,d2,d3⟩:=h.dn;refine ⟨hD D Dc w' (ok.Ba s D Dc w w' d1 (λb hb=>h.EP hst (by rw [(d2 b hb).2 (.obj b) trivial rfl];simp)) (λb k hb=>?_)), λb hb=>⟨by rw [hst.size];exact (d2 b hb).1, λl h1 h2=>?_⟩, λb k hb=>⟨by rw [hst.size];exact (d3 b k hb).1,?_, λa e1 e2=>?_⟩⟩
 ·have :=h.EP hst (b:=b) (by rw [(d3 b k hb).2.1];simp);unfold World.cell?;simp only [this]
 ·have e:=(d2 b hb).2 l h1 h2;rcases hw l with e'|⟨e',_⟩
  ·rw [e'];exact e
  ·exact absurd e e'
 ·have e:=(d3 b k hb).2.1;rcases hw (.obj b) with e'|⟨_,e'⟩
  ·rw [e'];exact e
  ·exact absurd e e'
 ·have e:=(d3 b k hb).2.2 a e1 e2;rcases hw (.cell a) with e'|⟨e',_⟩
  ·rw [e'];exact e
  ·exact absurd e e'
theorem MI.VX {gs:Array Goroutine} {w:World} {t:Trace} {θ:Nat->TS T} {s:Sh} {γ:Gh} {G D:Nat->Prop} {Dc:Nat->Nat->Prop} (ok:sW S AI free rk lt) (h:MI P S AI free O gs w t θ s γ G D Dc)
 {i:Nat} {x:Tk T} (hi:gs[i]?=some x.g) (hx:θ i= .fe x) {T':T} {s':Sh} {g':Goroutine} {w':World} {es:Array Event}
 (hf:S.fork x.Tt=false) (hr:S.ret x.Tt=false) (hb:¬S.blk x.Tt s) (hmv:S.mv i x.Tt s T' s') (hwk:S.wakes x.Tt=true->mayWake P x.g=true) (hrep:S.Dk s' w') (hst:cO S w w') (he:QX S s (S.kind x.Tt) es) (hk:S.kind x.Tt= .sU)
 (hon:∀G,(∀b,G b->¬x.own b)->S.J s G w'->On P S (At P S) i T' (λb=>x.own b∨G b) g' w'):
 ∃sZ γ' G',MI P S AI free O ((gs.map (woken P x.g g' w')).setIfInBounds i g') w' (t++MemOp.ofEvents i x.g.frame.fn x.g.frame.place es) (upd θ i sZ) s' γ' G' D Dc∧stops (upd θ i sZ)=upd (stops θ) i (if S.quit T' then none else some T'):=by
 classical
 have h1:=h.one i x.g hi;rw [hx] at h1;obtain ⟨_,Oe,EM,hDeaf,mU,Ch,dh⟩:=h1;have hlt:=(aa.1 hi).1;have hφ:stops θ i=some x.Tt:=by unfold stops;rw [hx];rfl
 obtain ⟨o1,o2,o3,o4,o5,o6,o7,o8,o9,Tp⟩:=ok.sU h.ai hlt hφ hmv hk;have hdf:=ok.iJ h.ai hlt hφ hmv;rw [hk] at hdf he;obtain ⟨a,ha,rfl⟩:∃a,S.dY s=some a∧es= #[⟨.mark (.acquire a),false,true⟩]:=he;obtain ⟨hJ,hG⟩:=h.lk o1
 have hJ':=ok.xR s G w w' hJ λb hb=>hst.rest b λhs=>by
  have :=((h.syn b (.inl hs)).2 (.obj b) trivial rfl).symm.trans ((hG b hb).2 (.obj b) trivial rfl);cases this
 have hGo:∀b,G b->¬x.own b:= λb hb ho=>by
  have :=(dh.mF ho).symm.trans ((hG b hb).2 (.obj b) trivial rfl);cases this
 have hon:=hon G hGo hJ';obtain ⟨who',hwho⟩:∃who':Loc->Who,who'= λl=>if dS l∧G (lb l) then .fe i else γ.who l:=⟨_,rfl⟩
 have uF:∀l,dS l->G (lb l)->who' l= .fe i:= λl h1 h2=>by rw [hwho];exact if_pos ⟨h1,h2⟩
 have mG:∀l,¬(dS l∧G (lb l))->who' l=γ.who l:= λl h1=>by rw [hwho];exact if_neg h1
 have wlk:∀l,dS l->G (lb l)->γ.who l= .lk:= λl h1 h2=>(hG _ h2).2 l h1 rfl
 have kZ:∀l,γ.who l≠ .lk->who' l=γ.who l:= λl hl=>mG l λ⟨h1,h2⟩=>hl (wlk l h1 h2)
 have keepR:∀j Z own,eU γ w.heap.size j Z own->eU { γ with who:=who' } w.heap.size j Z own:= λj Z own k=>k.turn λl=>by
  by_cases hl:γ.who l= .lk
  ·exact .inr (by rw [hl];simp)
  ·exact .inl (kZ l hl)
 have hti:=h.ti.acquire (z:={ g:=i,fn:=x.g.frame.fn,pos:=x.g.frame.place,act:=.mark (.acquire a) }) (a:=a) (by rw [h.dY,ha]) rfl (by rw [hDeaf,o6]) mU (who':=who') (λl=>by
  by_cases hl:dS l∧G (lb l)
  ·exact .inr ⟨wlk l hl.1 hl.2,uF l hl.1 hl.2⟩
  ·exact .inl (mG l hl))
 have Y4:eU { γ with who:=who' } w'.heap.size i (S.Z i T') (λb=>x.own b∨G b):=by
  have :=keepR i _ _ dh;rw [o8,hst.size];refine ⟨λb hb=>?_,this.cl,this.ro,this.sy⟩;rcases hb with hb|hb
  ·exact this.own b hb
  ·exact ⟨(hG b hb).1, λl h1 h2=>uF l h1 (by rw [h2];exact hb)⟩
 have hdd:Deaf (t++MemOp.ofEvents i x.g.frame.fn x.g.frame.place #[⟨.mark (.acquire a),false,true⟩]) i=S.deaf T':=by
  rw [Deaf_own,hDeaf,hdf,jQ (S:=S) (s:=s) (k:=.sU) ⟨a,ha,rfl⟩]
 obtain ⟨sZ,Bf,hstop,MN⟩:=tq (s':=s') Tp hon hdd (γ':={ γ with who:=who' }) mU (λh0=>by rw [o9];exact Ch h0) Y4
 refine ⟨sZ,{ γ with who:=who' }, λ_=>False,MI.hand ok h hi hx hf hr hb hmv hwk hrep hst (vo (λ_ _ _ _ _=>jL) hon) (by rw [hd1];exact hti) rfl Bf hstop (λ_=>MN)
  (λj y _ _ _ k=>keepR j _ _ k) (λ_ _ h=>h) (λ_ _=>Iff.rfl) (λl hl=>?_) (λl hl=>?_) (λl hl=>?_) (λhn=>?_) (by rw [o3];exact h.dY) (by rw [o4];exact h.mE) (λhf'=>absurd hf' o2) ?_⟩
 ·show who' l=_;rw [kZ l (by rw [hl];simp)];exact hl
 ·show who' l=_;rw [mG l λhm=>hl hm.1];exact h.nomem l hl
 ·show who' l≠_∧(who' l=_->_)
  by_cases hg:G (lb l)
  ·rw [uF l hl hg];exact ⟨by simp,by simp⟩
  ·rw [mG l λhm=>hg hm.2];exact h.memo l hl
 ·rw [o4] at hn;exact absurd hn o5
 ·refine h.IY ok hst (λl=>?_) o7
  by_cases hl:γ.who l= .lk
  ·exact .inr (by rw [hl];simp)
  ·exact .inl (kZ l hl)
theorem MI.VY {gs:Array Goroutine} {w:World} {t:Trace} {θ:Nat->TS T} {s:Sh} {γ:Gh} {G D:Nat->Prop} {Dc:Nat->Nat->Prop} (ok:sW S AI free rk lt) (h:MI P S AI free O gs w t θ s γ G D Dc)
 {i:Nat} {x:Tk T} (hi:gs[i]?=some x.g) (hx:θ i= .fe x) {T':T} {s':Sh} {g':Goroutine} {w':World} {es:Array Event}
 (hf:S.fork x.Tt=false) (hr:S.ret x.Tt=false) (hb:¬S.blk x.Tt s) (hmv:S.mv i x.Tt s T' s') (hwk:S.wakes x.Tt=true->mayWake P x.g=true) (hrep:S.Dk s' w') (hst:cO S w w') (he:QX S s (S.kind x.Tt) es) (hk:S.kind x.Tt= .sV)
 (hon:∃G,(∀b,G b->x.own b)∧S.J s' G w'∧On P S (At P S) i T' (λb=>x.own b∧¬G b) g' w'):
 ∃sZ γ' G',MI P S AI free O ((gs.map (woken P x.g g' w')).setIfInBounds i g') w' (t++MemOp.ofEvents i x.g.frame.fn x.g.frame.place es) (upd θ i sZ) s' γ' G' D Dc∧stops (upd θ i sZ)=upd (stops θ) i (if S.quit T' then none else some T'):=by
 classical
 have h1:=h.one i x.g hi;rw [hx] at h1;obtain ⟨_,Oe,EM,hDeaf,mU,Ch,dh⟩:=h1;have hlt:=(aa.1 hi).1;have hφ:stops θ i=some x.Tt:=by unfold stops;rw [hx];rfl
 obtain ⟨o1,o3,o4,o5,o6,o7,o8,o9,Tp⟩:=ok.sV h.ai hlt hφ hmv hk;have hdf:=ok.iJ h.ai hlt hφ hmv;rw [hk] at hdf he;obtain ⟨a,ha,rfl⟩:∃a,S.dY s=some a∧es= #[⟨.mark (.releaseMerge a),false,true⟩]:=he;obtain ⟨G',hG,hJ,hon⟩:=hon;obtain ⟨who',hwho⟩:∃who':Loc->Who,who'= λl=>if dS l∧G' (lb l) then .lk else γ.who l:=⟨_,rfl⟩
 have uF:∀l,dS l->G' (lb l)->who' l= .lk:= λl h1 h2=>by rw [hwho];exact if_pos ⟨h1,h2⟩
 have mG:∀l,¬(dS l∧G' (lb l))->who' l=γ.who l:= λl h1=>by rw [hwho];exact if_neg h1
 have XN:∀l,dS l->G' (lb l)->γ.who l= .fe i:= λl h1 h2=>(dh.own _ (hG _ h2)).2 l h1 rfl
 have kZ:∀l,γ.who l≠ .fe i->who' l=γ.who l:= λl hl=>mG l λ⟨h1,h2⟩=>hl (XN l h1 h2)
 have hti:=h.ti.release (y:={ g:=i,fn:=x.g.frame.fn,pos:=x.g.frame.place,act:=.mark (.releaseMerge a) }) (a:=a) (by rw [h.dY,ha]) rfl (by rw [hDeaf,o6]) (who':=who') (λl=>by
  by_cases hl:dS l∧G' (lb l)
  ·exact .inr ⟨XN l hl.1 hl.2,uF l hl.1 hl.2⟩
  ·exact .inl (mG l hl))
 have Y4:eU { γ with who:=who' } w'.heap.size i (S.Z i T') (λb=>x.own b∧¬G' b):=by
  rw [o8,hst.size];refine ⟨λb hb=>⟨(dh.own b hb.1).1, λl h1 h2=>?_⟩, λb c hb=>⟨(dh.cl b c hb).1,?_, λa e1 e2=>?_⟩, λb hb=>⟨(dh.ro b hb).1, λl h1 h2=>?_⟩, λb hb=>⟨(dh.sy b hb).1,?_⟩⟩
  ·show who' l=_;rw [mG l λhm=>hb.2 (by rw [<-h2];exact hm.2)];exact (dh.own b hb.1).2 l h1 h2
  ·show who' _=_;rw [kZ _ (by rw [(dh.cl b c hb).2.1];simp)];exact (dh.cl b c hb).2.1
  ·show who' _=_;have e:=(dh.cl b c hb).2.2 a e1 e2;rw [mG _ λhm=>?_]
   ·exact e
   ·have h3:G' b:=by rw [<-e1];exact hm.2
    have :=(dh.cl b c hb).2.1.symm.trans (dh.mF (hG b h3));cases this
  ·show who' l=_;rw [kZ l (by rw [(dh.ro b hb).2 l h1 h2];simp)];exact (dh.ro b hb).2 l h1 h2
  ·show who' _=_∨who' _=_;rcases (dh.sy b hb).2 with e|e<;>rw [kZ _ (by rw [e];simp)]
   ·exact .inl e
   ·exact .inr e
 have hdd:Deaf (t++MemOp.ofEvents i x.g.frame.fn x.g.frame.place #[⟨.mark (.releaseMerge a),false,true⟩]) i=S.deaf T':=by
  rw [Deaf_own,hDeaf,hdf,jQ (S:=S) (s:=s) (k:=.sV) ⟨a,ha,rfl⟩]
 obtain ⟨sZ,Bf,hstop,MN⟩:=tq (s':=s') Tp hon hdd (γ':={ γ with who:=who' }) mU (λh0=>by rw [o9];exact Ch h0) Y4
 refine ⟨sZ,{ γ with who:=who' },G',MI.hand ok h hi hx hf hr hb hmv hwk hrep hst (vo (λ_ _ _ _ _=>jL) hon) (by rw [hd1];exact hti) rfl Bf hstop (λ_=>MN)
  (λj y hne _ _ k=>k.turn λl=>?_) (λ_ _ h=>h) (λ_ _=>Iff.rfl) (λl hl=>?_) (λl hl=>?_) (λl hl=>?_) (λhn=>?_) (by rw [o3];exact h.dY) (by rw [o4];exact h.mE) (λ_=>⟨hJ, λb hb=>⟨?_, λl h1 h2=>uF l h1 (by rw [h2];exact hb)⟩⟩) ?_⟩
 ·by_cases hl:γ.who l= .fe i
  ·refine .inr ?_
   rw [hl];exact ⟨λe=>hne (Who.fe.inj e).symm,by simp,by simp,by simp⟩
  ·exact .inl (kZ l hl)
 ·show who' l=_;rw [kZ l (by rw [hl];simp)];exact hl
 ·show who' l=_;rw [mG l λhm=>hl hm.1];exact h.nomem l hl
 ·show who' l≠_∧(who' l=_->_)
  by_cases hg:G' (lb l)
  ·rw [uF l hl hg];exact ⟨by simp,by simp⟩
  ·rw [mG l λhm=>hg hm.2];exact h.memo l hl
 ·rw [o4] at hn;exact absurd hn o5
 ·rw [hst.size];exact (dh.own b (hG b hb)).1
 ·refine h.IY ok hst (λl=>?_) o7
  by_cases hl:γ.who l= .fe i
  ·exact .inr (by rw [hl];simp)
  ·exact .inl (kZ l hl)
end
end Par
end
section
namespace Par
open Go Go.Conc Go.ConcM Go.ConcN
variable {O:Nat->Prop}
section
variable {T Sh ρ:Type} {P:Program} {S:Sys T Sh} {AI:Nat->(Nat->Option T)->Sh->Prop} {free:Sh->Prop} {rk:Nat->(Nat->Option T)->Sh->ρ} {lt:ρ->ρ->Prop}
theorem MI.Tq {gs:Array Goroutine} {w:World} {t:Trace} {θ:Nat->TS T} {s:Sh} {γ:Gh} {G D:Nat->Prop} {Dc:Nat->Nat->Prop} (ok:sW S AI free rk lt) (h:MI P S AI free O gs w t θ s γ G D Dc)
 {i:Nat} {x:Tk T} (hi:gs[i]?=some x.g) (hx:θ i= .fe x) {T':T} {s':Sh} {g':Goroutine} {w':World} {es:Array Event}
 (hf:S.fork x.Tt=false) (hr:S.ret x.Tt=false) (hb:¬S.blk x.Tt s) (hmv:S.mv i x.Tt s T' s') (hwk:S.wakes x.Tt=true->mayWake P x.g=true) (hrep:S.Dk s' w') (hst:cO S w w') (he:QX S s (S.kind x.Tt) es) (hk:S.kind x.Tt= .done)
 (hdp:∀D Dc,S.Dp s D Dc w'->S.Dp s' (λb=>D b∨x.own b) (λb k=>Dc b k∨(S.Z i x.Tt).cl b k) w') (hon:On P S (At P S) i T' (λ_=>False) g' w'):
 ∃sZ γ' D' FM,MI P S AI free O ((gs.map (woken P x.g g' w')).setIfInBounds i g') w' (t++MemOp.ofEvents i x.g.frame.fn x.g.frame.place es) (upd θ i sZ) s' γ' G D' FM∧stops (upd θ i sZ)=upd (stops θ) i (if S.quit T' then none else some T'):=by
 classical
 have h1:=h.one i x.g hi;rw [hx] at h1;obtain ⟨_,Oe,EM,hDeaf,mU,Ch,dh⟩:=h1;have hlt:=(aa.1 hi).1;have hφ:stops θ i=some x.Tt:=by unfold stops;rw [hx];rfl
 obtain ⟨o1,o2,o3,o4,o5,o6,o7,o8,o9,Tp,XO,Y5,o13⟩:=ok.done h.ai hlt hφ hmv hk;have hdf:=ok.iJ h.ai hlt hφ hmv;rw [hk] at hdf he;obtain ⟨a,ha,rfl⟩:∃a,S.mE s=some a∧es= #[⟨.mark (.releaseMerge a),false,true⟩]:=he;obtain ⟨who',hwho⟩:∃who':Loc->Who,who'= λl=>if γ.who l= .fe i then .dn else γ.who l:=⟨_,rfl⟩
 have uF:∀l,γ.who l= .fe i->who' l= .dn:= λl h1=>by rw [hwho];exact if_pos h1
 have mG:∀l,γ.who l≠ .fe i->who' l=γ.who l:= λl h1=>by rw [hwho];exact if_neg h1
 have hti:=h.ti.done (y:={ g:=i,fn:=x.g.frame.fn,pos:=x.g.frame.place,act:=.mark (.releaseMerge a) }) (a:=a) (by rw [h.mE,ha]) rfl (by rw [hDeaf,o4]) (who':=who') (λl=>by
  by_cases hl:γ.who l= .fe i
  ·rw [uF l hl];exact ⟨by simp,.inr ⟨hl,rfl⟩⟩
  ·rw [mG l hl];exact ⟨hl,.inl rfl⟩)
 have Y4:eU { γ with who:=who',act:= λg=>γ.act g∧g≠i } w'.heap.size i (S.Z i T') (λ_=>False):=by
  rw [hst.size];refine ⟨λb hb=>hb.elim, λb c hb=>absurd hb (Y5 b c), λb hb=>⟨(dh.ro b (Tp b hb)).1, λl h1 h2=>?_⟩, λb hb=>⟨(dh.sy b (XO b hb)).1,?_⟩⟩
  ·show who' l=_;have e:=(dh.ro b (Tp b hb)).2 l h1 h2;rw [mG l (by rw [e];simp)];exact e
  ·show who' _=_∨who' _=_;rcases (dh.sy b (XO b hb)).2 with e|e<;>rw [mG _ (by rw [e];simp)]
   ·exact .inl e
   ·exact .inr e
 have hdd:Deaf (t++MemOp.ofEvents i x.g.frame.fn x.g.frame.place #[⟨.mark (.releaseMerge a),false,true⟩]) i=S.deaf T':=by
  rw [Deaf_own,hDeaf,hdf,jQ (S:=S) (s:=s) (k:=.done) ⟨a,ha,rfl⟩]
 obtain ⟨sZ,Bf,hstop,MN⟩:=tq (s':=s') o13 hon hdd (γ':={ γ with who:=who',act:= λg=>γ.act g∧g≠i }) mU (λ_=>⟨λx=>absurd rfl x.2, λx=>by rw [o3] at x;cases x⟩) Y4
 refine ⟨sZ,{ γ with who:=who',act:= λg=>γ.act g∧g≠i },_,_,MI.hand ok h hi hx hf hr hb hmv hwk hrep hst (vo (λ_ _ _ _ _=>jL) hon) (by rw [hd1];exact hti) rfl Bf hstop (λ_=>MN)
  (λj y hne _ _ k=>k.turn λl=>?_) (λ_ _ h=>h) (λj hj=>⟨λx=>x.1, λx=>⟨x,hj⟩⟩) (λl hl=>?_) (λl hl=>?_) (λl hl=>?_) (λhn=>?_) (by rw [o5];exact h.dY) (by rw [o6];exact h.mE) (λhf'=>?_) ⟨hdp D Dc (h.IY ok hst (γ':=γ) (λ_=>.inl rfl) λ_ _ _ x=>x).1, λb hb=>?_, λb k hb=>?_⟩⟩
 ·by_cases hl:γ.who l= .fe i
  ·refine .inr ?_
   rw [hl];exact ⟨λe=>hne (Who.fe.inj e).symm,by simp,by simp,by simp⟩
  ·exact .inl (mG l hl)
 ·show who' l=_;rw [mG l (by rw [hl];simp)];exact hl
 ·show who' l=_;have e:=h.nomem l hl;rw [mG l (by rw [e];simp)];exact e
 ·show who' l≠_∧(who' l=_->_)
  by_cases hg:γ.who l= .fe i
  ·rw [uF l hg];exact ⟨by simp,by simp⟩
  ·rw [mG l hg];exact h.memo l hl
 ·rw [o6] at hn;exact absurd hn o7
 ·obtain ⟨h2,h3⟩:=h.lk (o8.1 hf');refine ⟨o9 G w' (ok.xR s G w w' h2 λb hb=>h.EP hst (by rw [(h3 b hb).2 (.obj b) trivial rfl];simp)), λb hb=>⟨by rw [hst.size];exact (h3 b hb).1, λl h1 h2=>?_⟩⟩;show who' l=_;have e:=(h3 b hb).2 l h1 h2;rw [mG l (by rw [e];simp)];exact e
 ·obtain ⟨_,d2,_⟩:=h.dn;rcases hb with hb|hb
  ·refine ⟨by rw [hst.size];exact (d2 b hb).1, λl h1 h2=>?_⟩;show who' l=_;have e:=(d2 b hb).2 l h1 h2;rw [mG l (by rw [e];simp)];exact e
  ·exact ⟨by rw [hst.size];exact (dh.own b hb).1, λl h1 h2=>uF l ((dh.own b hb).2 l h1 h2)⟩
 ·obtain ⟨_,_,d3⟩:=h.dn;rcases hb with hb|hb
  ·refine ⟨by rw [hst.size];exact (d3 b k hb).1,?_, λa e1 e2=>?_⟩
   ·show who' _=_;have e:=(d3 b k hb).2.1;rw [mG _ (by rw [e];simp)];exact e
   ·show who' _=_;have e:=(d3 b k hb).2.2 a e1 e2;rw [mG _ (by rw [e];simp)];exact e
  ·obtain ⟨c1,c2,c3⟩:=dh.cl b k hb;refine ⟨by rw [hst.size];exact (dh.sy b c1).1,?_, λa e1 e2=>uF _ (c3 a e1 e2)⟩;show who' _=_;rw [mG _ (by rw [c2];simp)];exact c2
theorem MI.Tu {gs:Array Goroutine} {w:World} {t:Trace} {θ:Nat->TS T} {s:Sh} {γ:Gh} {G D:Nat->Prop} {Dc:Nat->Nat->Prop} (ok:sW S AI free rk lt) (h:MI P S AI free O gs w t θ s γ G D Dc)
 {i:Nat} {x:Tk T} (hi:gs[i]?=some x.g) (hx:θ i= .fe x) {T':T} {s':Sh} {g':Goroutine} {w':World} {es:Array Event}
 (hf:S.fork x.Tt=false) (hr:S.ret x.Tt=false) (hb:¬S.blk x.Tt s) (hmv:S.mv i x.Tt s T' s') (hwk:S.wakes x.Tt=true->mayWake P x.g=true) (hrep:S.Dk s' w') (hst:cO S w w') (he:QX S s (S.kind x.Tt) es) (hk:S.kind x.Tt= .join)
 (hon:∀G D Dc own',S.J s G w'->S.Dp s D Dc w'->(∀b,own' b->b<w'.heap.size∧¬S.syn b)->(∀b,x.own b->own' b)->(∀b,G b->own' b)->(∀b,D b->own' b)->On P S (At P S) i T' own' g' w'):
 ∃sZ γ' G' D' FM,MI P S AI free O ((gs.map (woken P x.g g' w')).setIfInBounds i g') w' (t++MemOp.ofEvents i x.g.frame.fn x.g.frame.place es) (upd θ i sZ) s' γ' G' D' FM∧stops (upd θ i sZ)=upd (stops θ) i (if S.quit T' then none else some T'):=by
 classical
 have h1:=h.one i x.g hi;rw [hx] at h1;obtain ⟨_,Oe,EM,hDeaf,mU,Ch,dh⟩:=h1;have hlt:=(aa.1 hi).1;have hφ:stops θ i=some x.Tt:=by unfold stops;rw [hx];rfl
 obtain ⟨o1,o2,o3,o4,o5,o6,o7,o8,o9,Tp,XO,Y5⟩:=ok.join h.ai hlt hφ hmv hk;have hdf:=ok.iJ h.ai hlt hφ hmv;rw [hk] at hdf he;subst o1;obtain ⟨a,ha,rfl⟩:∃a,S.mE s=some a∧es= #[⟨.mark (.acquire a),false,true⟩]:=he
 have XP:∀j y,j<gs.size->j≠0->θ j≠ .fe y:= λj y h1 h2 e=>by
  have :=o4 j h1 h2;unfold stops at this;rw [e] at this;cases this
 obtain ⟨who',hwho⟩:∃who':Loc->Who,who'= λl=>if γ.who l= .sy then .sy else if γ.who l= .fr then .fr else .fe 0:=⟨_,rfl⟩
 have VZ:∀l,γ.who l= .sy->who' l= .sy:= λl h1=>by rw [hwho];exact if_pos h1
 have wfr:∀l,γ.who l= .fr->who' l= .fr:= λl h1=>by rw [hwho];simp [h1]
 have uF:∀l,γ.who l≠ .sy->γ.who l≠ .fr->who' l= .fe 0:= λl h1 h2=>by rw [hwho];simp [h1,h2]
 have ah5:∀l,dS l->¬(S.syn (lb l)∨O (lb l))->who' l= .fe 0:= λl hl hn=>uF l (λe=>hn ((h.memo l hl).2 e)) (h.memo l hl).1
 have hno:∀g,g≠0->¬γ.act g:= λg hg ha=>by
  have hlt':=h.Bb g ha;have :=h.one g gs[g] (by simp [hlt']);cases wC:θ g with
  |fe y=>exact XP g y hlt' hg wC
  |lv k d=>rw [wC] at this;exact this.2.2.2 ha
 have hti:=(h.ti.join (z:={ g:=0,fn:=x.g.frame.fn,pos:=x.g.frame.place,act:=.mark (.acquire a) }) (a:=a) (by rw [h.mE,ha]) rfl rfl (by rw [hDeaf,o3]) hno (who':=who') (λl=>by
  by_cases h1:γ.who l= .sy
  ·exact .inl ⟨by rw [VZ l h1,h1],.inl h1⟩
  ·by_cases h2:γ.who l= .fr
   ·exact .inl ⟨by rw [wfr l h2,h2],.inr h2⟩
   ·exact .inr ⟨h1,uF l h1 h2⟩)).1
 obtain ⟨hJ,hG⟩:=h.lk o2;have hon:=hon G D Dc (λb=>b<w'.heap.size∧¬(S.syn b∨O b)) (ok.xR s G w w' hJ λb hb=>h.EP hst (by rw [(hG b hb).2 (.obj b) trivial rfl];simp)) (h.IY ok hst (γ':=γ) (λ_=>.inl rfl) λ_ _ _ x=>x).1 (λb hb=>⟨hb.1, λhs=>hb.2 (.inl hs)⟩) (λb hb=>⟨by rw [hst.size];exact (dh.own b hb).1, λhs=>by have :=((h.syn b hs).2 (.obj b) trivial rfl).symm.trans (dh.mF hb);cases this⟩) (λb hb=>⟨by rw [hst.size];exact (hG b hb).1, λhs=>by have :=((h.syn b hs).2 (.obj b) trivial rfl).symm.trans ((hG b hb).2 (.obj b) trivial rfl);cases this⟩) (λb hb=>⟨by rw [hst.size];exact (h.dn.2.1 b hb).1, λhs=>by have :=((h.syn b hs).2 (.obj b) trivial rfl).symm.trans ((h.dn.2.1 b hb).2 (.obj b) trivial rfl);cases this⟩)
 have Y4:eU { γ with who:=who',wg:=none,lock:=none } w'.heap.size 0 (S.Z 0 T') (λb=>b<w'.heap.size∧¬(S.syn b∨O b)):=
  ⟨λb hb=>⟨hb.1, λl h1 h2=>ah5 l h1 (by rw [h2];exact hb.2)⟩, λb c hb=>absurd hb (XO b c), λb hb=>absurd hb (o9 b), λb hb=>absurd hb (Tp b)⟩
 have hdd:Deaf (t++MemOp.ofEvents 0 x.g.frame.fn x.g.frame.place #[⟨.mark (.acquire a),false,true⟩]) 0=S.deaf T':=by
  rw [Deaf_own,hDeaf,hdf,jQ (S:=S) (s:=s) (k:=.join) ⟨a,ha,rfl⟩]
 obtain ⟨sZ,Bf,hstop,MN⟩:=tq (s':=s') Y5 hon hdd (γ':={ γ with who:=who',wg:=none,lock:=none }) mU (λh0=>absurd rfl h0) Y4
 refine ⟨sZ,{ γ with who:=who',wg:=none,lock:=none }, λ_=>False, λ_=>False, λ_ _=>False,MI.hand ok h hi hx hf hr hb hmv hwk hrep hst (vo (λ_ _ _ _ _=>jL) hon) (by rw [hd1];exact hti) rfl Bf hstop (λ_=>MN)
  (λj y hne hy hj k=>absurd hy (XP j y hj hne)) (λ_ _ h=>h) (λ_ _=>Iff.rfl) (λl hl=>VZ l hl) (λl hl=>wfr l (h.nomem l hl)) (λl hl=>?_) (λ_ l hl hn=>ah5 l hl hn) o5.symm o6.symm (λhf'=>absurd hf' o7) ⟨o8 w', λb hb=>hb.elim, λb k hb=>hb.elim⟩⟩
 show who' l≠_∧(who' l=_->_)
 by_cases hs:γ.who l= .sy
 ·rw [VZ l hs];exact ⟨by simp, λ_=>(h.memo l hl).2 hs⟩
 ·rw [uF l hs (h.memo l hl).1];exact ⟨by simp,by simp⟩
theorem IZ {t:Trace} {x y:MemOp} {k:Nat} (hx:x.act= .go k) (hy:y.act= .start) (g:Nat):Deaf (t++ #[x,y]) g=Deaf t g:=by
 have e:t++ #[x,y]=t++ [x,y].toArray:=rfl;rw [e,Deaf_append];simp only [List.foldl_cons,List.foldl_nil];unfold deafStep;rw [hx,hy]
theorem Y6 {w:World} {t:Trace} {s:Sh} {γ:Gh} {j:Nat} {gj:Goroutine} {Bc:TS T} {x y:MemOp} {k:Nat} (hx:x.act= .go k) (hy:y.act= .start) (h:One P S w t s γ j gj Bc):One P S w (t++ #[x,y]) s γ j gj Bc:=by
 cases Bc with
 |lv k d=>
  obtain ⟨h1,h2,h3,h4⟩:=h;exact ⟨h1,by rw [IZ hx hy];exact h2,h3,h4⟩
 |fe z=>
  obtain ⟨h1,h2,h3,h4,h5,h6,h7⟩:=h;exact ⟨h1,h2,h3,by rw [IZ hx hy];exact h4,h5,h6,h7⟩
theorem MI.P5 {gs:Array Goroutine} {w:World} {t:Trace} {θ:Nat->TS T} {s:Sh} {γ:Gh} {G D:Nat->Prop} {Dc:Nat->Nat->Prop} (ok:sW S AI free rk lt) (h:MI P S AI free O gs w t θ s γ G D Dc)
 {x:Tk T} (hi:gs[0]?=some x.g) (hx:θ 0= .fe x) {T' Tc:T} {s':Sh} {g' child:Goroutine} {own' qG:Nat->Prop}
 (hf:S.fork x.Tt=true) (hsp:S.sp x.Tt s T' Tc s') (hrep:S.Dk s' w) (hown:∀b,x.own b↔own' b∨qG b) (xV:∀b,own' b->¬qG b)
 (hon:On P S (At P S) 0 T' own' g' w) (Y7:∀k,k≠0->On P S (At P S) k Tc qG child w) (Y8 Y9:FuncId) (pos1 pos2:String):
 ∃Vg θc γ',MI P S AI free O ((gs.setIfInBounds 0 g').push child) w (t++ #[{ g:=0,fn:=Y8,pos:=pos1,act:=.go gs.size },{ g:=gs.size,fn:=Y9,pos:=pos2,act:=.start }]) (upd (upd θ 0 Vg) gs.size θc) s' γ' G D Dc∧
  stops (upd (upd θ 0 Vg) gs.size θc)=upd (upd (stops θ) 0 (some T')) gs.size (some Tc):=by
 classical
 have h1:=h.one 0 x.g hi;rw [hx] at h1;obtain ⟨_,Oe,EM,hDeaf,mU,Ch,dh⟩:=h1;have hlt:=(aa.1 hi).1;have hφ:stops θ 0=some x.Tt:=by unfold stops;rw [hx];rfl
 obtain ⟨hsame,o2,o3,o4,o5,o6,o7,o8,o9,Tp,XO,Y5,o13,o14⟩:=ok.ML h.ai hφ hf hsp;obtain ⟨hai,_⟩:=ok.spawn h.ai hφ hf hsp;have hn0:gs.size≠0:=by omega
 obtain ⟨n,hn⟩:∃n,n=gs.size:=⟨_,rfl⟩;rw [<-hn] at XO Y5 o14 hai hn0 ⊢;have Y7:=Y7 n hn0;obtain ⟨C,hC⟩:∃C:Loc->Prop,C= λl=>(dS l∧qG (lb l))∨∃a:Addr,l= .cell a∧(S.Z n Tc).cl a.block a.off:=⟨_,rfl⟩
 have cth:∀l,C l->γ.who l= .fe 0:=by
  intro l hl;rw [hC] at hl;rcases hl with ⟨h1,h2⟩|⟨a,rfl,h2⟩
  ·exact (dh.own _ ((hown _).2 (.inr h2))).2 l h1 rfl
  ·exact (dh.cl _ _ (o14 _ _ h2).2.1).2.2 a rfl rfl
 obtain ⟨who',hwho⟩:∃who':Loc->Who,who'= λl=>if C l then .fe n else γ.who l:=⟨_,rfl⟩
 have uF:∀l,C l->who' l= .fe n:= λl h1=>by rw [hwho];exact if_pos h1
 have mG:∀l,¬C l->who' l=γ.who l:= λl h1=>by rw [hwho];exact if_neg h1
 have kZ:∀l,γ.who l≠ .fe 0->who' l=γ.who l:= λl hl=>mG l λhc=>hl (cth l hc)
 obtain ⟨γ',hγ⟩:∃γ':Gh,γ'= { γ with who:=who',live:= λg=>γ.live g∨g=n,act:= λg=>γ.act g∨g=n }:=⟨_,rfl⟩;have mY:γ'.who=who':=by rw [hγ]
 have P6:Deaf t n=0:=Deaf_absent λi op hop=>Nat.ne_of_lt (by rw [hn];exact h.nums op (aK hop))
 have hti:TI γ' (t++ #[{ g:=0,fn:=Y8,pos:=pos1,act:=.go n },{ g:=n,fn:=Y9,pos:=pos2,act:=.start }]):=by
  rw [hγ]
  exact h.ti.fork (k:=n) (x:={ g:=0,fn:=Y8,pos:=pos1,act:=.go n }) (y:={ g:=n,fn:=Y9,pos:=pos2,act:=.start }) ⟨rfl,rfl⟩ ⟨rfl,rfl⟩ (by rw [hDeaf,o3]) P6 mU (who':=who') λl=>by
   by_cases hl:C l
   ·exact .inr ⟨cth l hl,uF l hl⟩
   ·exact .inl (mG l hl)
 have hdd:∀g,Deaf (t++ #[{ g:=0,fn:=Y8,pos:=pos1,act:=.go n },{ g:=n,fn:=Y9,pos:=pos2,act:=.start }]) g=Deaf t g:= λg=>IZ rfl rfl g
 have other:∀{j Z own},j≠0->eU γ w.heap.size j Z own->eU γ' w.heap.size j Z own:= λhj k=>k.turn λl=>by
  rw [mY]
  by_cases hl:C l
  ·refine .inr ?_
   rw [cth l hl];exact ⟨λe=>hj (Who.fe.inj e).symm,by simp,by simp,by simp⟩
  ·exact .inl (mG l hl)
 have ah6:∀b k,(S.Z n Tc).cl b k->∀b',x.own b'->b'≠b:= λb k hb b' hb' e=>by
  have :=(dh.cl b k (o14 b k hb).2.1).2.1.symm.trans (dh.mF (e ▸ hb'));cases this
 have hR0:eU γ' w.heap.size 0 (S.Z 0 T') own':=by
  refine ⟨λb hb=>⟨(dh.own b ((hown b).2 (.inl hb))).1, λl h1 h2=>?_⟩, λb c hb=>⟨(o13 b c hb).1,?_, λa e1 e2=>?_⟩, λb hb=>⟨(dh.ro b (o9 b hb)).1, λl h1 h2=>?_⟩, λb hb=>⟨(dh.sy b (Tp b hb)).1,?_⟩⟩
  ·rw [mY,mG l]
   ·exact (dh.own b ((hown b).2 (.inl hb))).2 l h1 h2
   ·intro hc;rw [hC] at hc;rcases hc with ⟨_,h3⟩|⟨a,rfl,h3⟩
    ·rw [h2] at h3;exact xV b hb h3
    ·exact ah6 _ _ h3 b ((hown b).2 (.inl hb)) h2.symm
  ·have e:=(dh.cl b c (o13 b c hb).2).2.1;rw [mY,kZ _ (by rw [e];simp)];exact e
  ·have e:=(dh.cl b c (o13 b c hb).2).2;rw [mY,mG]
   ·exact e.2 a e1 e2
   ·intro hc;rw [hC] at hc;rcases hc with ⟨_,h3⟩|⟨a',ea,h3⟩
    ·have h3:qG a.block:=h3;rw [e1] at h3;have :=e.1.symm.trans (dh.mF ((hown b).2 (.inr h3)));cases this
    ·cases ea;rw [e1,e2] at h3;exact (o14 b c h3).2.2 hb
  ·have e:=(dh.ro b (o9 b hb)).2 l h1 h2;rw [mY,kZ l (by rw [e];simp)];exact e
  ·rw [mY];rcases (dh.sy b (Tp b hb)).2 with e|e<;>rw [kZ _ (by rw [e];simp)]
   ·exact .inl e
   ·exact .inr e
 have hRc:eU γ' w.heap.size n (S.Z n Tc) qG:=by
  refine ⟨λb hb=>⟨(dh.own b ((hown b).2 (.inr hb))).1, λl h1 h2=>?_⟩, λb c hb=>⟨(o14 b c hb).1,?_, λa e1 e2=>?_⟩, λb hb=>⟨(dh.ro b (XO b hb)).1, λl h1 h2=>?_⟩, λb hb=>⟨(dh.sy b (Y5 b hb)).1,?_⟩⟩
  ·rw [mY];exact uF l (by rw [hC];exact .inl ⟨h1,by rw [h2];exact hb⟩)
  ·have e:=(dh.cl b c (o14 b c hb).2.1).2.1;rw [mY,kZ _ (by rw [e];simp)];exact e
  ·rw [mY];exact uF _ (by rw [hC];exact .inr ⟨a,rfl,by rw [e1,e2];exact hb⟩)
  ·have e:=(dh.ro b (XO b hb)).2 l h1 h2;rw [mY,kZ l (by rw [e];simp)];exact e
  ·rw [mY];rcases (dh.sy b (Y5 b hb)).2 with e|e<;>rw [kZ _ (by rw [e];simp)]
   ·exact .inl e
   ·exact .inr e
 obtain ⟨Vg,Za,Tv,Tw⟩:=tq (s':=s') o7 hon (by rw [hdd,hDeaf,o3,o4]) (γ':=γ') (by rw [hγ];exact .inl mU) (λh0=>absurd rfl h0) hR0;obtain ⟨θc,ap7,ah7,au2⟩:=tq (s':=s') o8 Y7 (by rw [hdd,P6,o5]) (γ':=γ') (by rw [hγ];exact .inr rfl) (λ_=>⟨λ_=>o6, λ_=>by rw [hγ];exact .inr rfl⟩) hRc;rw [if_neg (by rw [o7];simp)] at Tv;rw [if_neg (by rw [o8];simp)] at ah7;have ah8:stops (upd (upd θ 0 Vg) n θc)=upd (upd (stops θ) 0 (some T')) n (some Tc):=by rw [Ci ah7,Ci Tv]
 refine ⟨Vg,θc,γ',⟨λj gj hj=>?_,?_,by simp,by rw [ah8];simpa [<-hn] using hai,hrep,hti,by rw [hγ];exact h.B, λop hop=>?_, λb hb=>⟨(h.syn b hb).1, λl h1 h2=>?_⟩, λl hl=>?_, λl hl=>?_, λk hk=>?_, λhj=>absurd (hsame.mE ▸ hj) o2,by rw [hγ,hsame.dY];exact h.dY,by rw [hγ,hsame.mE];exact h.mE, λhf'=>?_,?_⟩,ah8⟩
 ·rw [Array.getElem?_push] at hj;split at hj
  ·rename_i e;simp at e;have e:j=n:=by rw [e,hn]
   subst e;rw [upd_same];cases hj;exact ap7
  ·rename_i e;have e:j≠n:= λe'=>e (by simp [e',hn])
   rw [upd_ne e]
   by_cases hj0:j=0
   ·subst hj0;rw [upd_same];rw [Array.getElem?_setIfInBounds_self_of_lt hlt] at hj;cases hj;exact Za
   ·rw [upd_ne hj0];rw [Array.getElem?_setIfInBounds_ne (Ne.symm hj0)] at hj;have hjlt:=(aa.1 hj).1;have h2:=Y6 (x:={ g:=0,fn:=Y8,pos:=pos1,act:=.go n }) (y:={ g:=n,fn:=Y9,pos:=pos2,act:=.start }) rfl rfl (h.one j gj hj)
    have h3:One P S w (t++ #[{ g:=0,fn:=Y8,pos:=pos1,act:=.go n },{ g:=n,fn:=Y9,pos:=pos2,act:=.start }]) s' γ j gj (θ j):=by
     cases wC:θ j with
     |lv k d=>rw [wC] at h2;exact h2
     |fe y=>
      rw [wC] at h2;obtain ⟨b1,b2⟩:=h2;refine ⟨b1.imp id λ⟨c1,c2,c3⟩=>⟨c1,?_,c3⟩,b2⟩;have Tn:stops θ j=some y.Tt:=by unfold stops;rw [wC];rfl
      exact ok.stay h.ai hlt hφ ((ok.A8 _ hf).2 s) (ok.A8 _ hf).1 (.inr ⟨Tc,hsp⟩) j y.Tt hjlt hj0 Tn c2
    refine ER h3 (λy _ k=>other hj0 k) (λx=>by rw [hγ];exact .inl x) ?_
    rw [hγ];exact ⟨λx=>x.resolve_right e, λx=>.inl x⟩
 ·obtain ⟨y,hy⟩:=Tw;exact ⟨y,by rw [upd_ne (Ne.symm hn0),upd_same];exact hy⟩
 ·rcases Array.mem_append.1 hop with hop|hop
  ·have :=h.nums op hop;simp;omega
  ·have :op= { g:=0,fn:=Y8,pos:=pos1,act:=.go n }∨op= { g:=n,fn:=Y9,pos:=pos2,act:=.start }:=by simpa using hop
   rcases this with rfl|rfl<;>simp;omega
 ·have e:=(h.syn b hb).2 l h1 h2;rw [mY,kZ l (by rw [e];simp)];exact e
 ·have e:=h.nomem l hl;rw [mY,kZ l (by rw [e];simp)];exact e
 ·rw [mY]
  by_cases hc:C l
  ·rw [uF l hc];exact ⟨by simp,by simp⟩
  ·rw [mG l hc];exact h.memo l hl
 ·rw [hγ] at hk;rcases hk with hk|rfl
  ·have :=h.Bb k hk;simp;omega
  ·simp [hn]
 ·obtain ⟨h2,h3⟩:=h.lk (hsame.free.1 hf');refine ⟨hsame.J G w h2, λb hb=>⟨(h3 b hb).1, λl h1 h2=>?_⟩⟩;have e:=(h3 b hb).2 l h1 h2;rw [mY,kZ l (by rw [e];simp)];exact e
 ·obtain ⟨d1,d2,d3⟩:=h.dn;refine ⟨hsame.Dp D Dc w d1, λb hb=>⟨(d2 b hb).1, λl h1 h2=>?_⟩, λb k hb=>⟨(d3 b k hb).1,?_, λa e1 e2=>?_⟩⟩
  ·have e:=(d2 b hb).2 l h1 h2;rw [mY,kZ l (by rw [e];simp)];exact e
  ·have e:=(d3 b k hb).2.1;rw [mY,kZ _ (by rw [e];simp)];exact e
  ·have e:=(d3 b k hb).2.2 a e1 e2;rw [mY,kZ _ (by rw [e];simp)];exact e
end
end Par
end
section
namespace Par
open Go Go.Conc Go.ConcM Go.ConcN
variable {O:Nat->Prop}
def sm:Nat->(Nat->Nat)->Nat
 |0,_=>0
 |n+1,f=>sm n f+f n
theorem GK {f g:Nat->Nat}:∀{n:Nat},(∀j,j<n->f j<=g j)->sm n f<=sm n g
 |0,_=>aj _
 |n+1,h=>by
  have h1:=GK (f:=f) (g:=g) (n:=n) λj hj=>h j (by omega)
  have h2:=h n (by omega);show sm n f+f n<=sm n g+g n;omega
theorem Og {f g:Nat->Nat} {i:Nat}:∀{n:Nat},i<n->f i<g i->(∀j,j<n->f j<=g j)->sm n f<sm n g
 |0,hi,_,_=>by omega
 |n+1,hi,hlt,h=>by
  show sm n f+f n<sm n g+g n
  by_cases e:i=n
  ·subst e;have h1:=GK (f:=f) (g:=g) (n:=i) λj hj=>h j (by omega)
   omega
  ·have h1:=Og (f:=f) (g:=g) (n:=n) (by omega) hlt λj hj=>h j (by omega)
   have h2:=h n (by omega);omega
section
variable {T Sh ρ:Type} {P:Program} {S:Sys T Sh} {AI:Nat->(Nat->Option T)->Sh->Prop} {free:Sh->Prop} {rk:Nat->(Nat->Option T)->Sh->ρ} {lt:ρ->ρ->Prop}
def TS.tree {T:Type}:TS T->Tr
 | .fe x=>x.tr
 | .lv _ _=>.leaf
def TS.left {T:Type}:TS T->Nat
 | .fe _=>0
 | .lv k _=>k
def trees {T:Type} (n:Nat) (θ:Nat->TS T):List Tr:=(List.range n).map λi=>(θ i).tree
def bit (gs:Array Goroutine) (i:Nat):Nat:=match gs[i]? with
 |some g=>match g.status with
  | .running=>1
  |_=>0
 |none=>0
abbrev Ms (ρ:Type):=ρ×List Tr×Nat×Nat
def ms (rk:Nat->(Nat->Option T)->Sh->ρ) (gs:Array Goroutine) (θ:Nat->TS T) (s:Sh):Ms ρ:=(rk gs.size (stops θ) s,trees gs.size θ,sm gs.size (λi=>(θ i).left),sm gs.size (bit gs))
def Vh (lt:ρ->ρ->Prop):Ms ρ->Ms ρ->Prop:=Prod.Lex lt (Prod.Lex (nH Tr.Sub) (Prod.Lex Nat.lt Nat.lt))
theorem Vh.wf (h:WellFounded lt):WellFounded (Vh (ρ:=ρ) lt):=(Prod.lex ⟨_,h⟩ (Prod.lex ⟨_,nH.wf Tr.wf⟩ (Prod.lex Nat.lt_wfRel Nat.lt_wfRel))).wf
theorem GM {n i:Nat} {θ:Nat->TS T} {a:TS T}:trees n (upd θ i a)=(trees n θ).set i a.tree:=by
 apply List.ext_getElem?;intro j;unfold trees;rw [List.getElem?_set];simp only [List.getElem?_map,List.length_map,List.length_range]
 by_cases hj:i=j
 ·subst hj
  by_cases hi:i<n
  ·simp [hi,upd_same]
  ·simp [hi]
 ·by_cases hi:j<n
  ·simp [hi,hj,upd_ne (Ne.symm hj)]
  ·simp [hi,hj]
theorem GN {n i:Nat} {θ:Nat->TS T} (hi:i<n):(trees n θ)[i]?=some (θ i).tree:=by
 unfold trees;simp [hi]
theorem ES {θ:Nat->TS T} {i:Nat} {a:TS T} (h:a.stop?=(θ i).stop?):stops (upd θ i a)=stops θ:=by
 funext j;unfold stops
 by_cases hj:j=i
 ·subst hj;rw [upd_same];exact h
 ·rw [upd_ne hj]
theorem Zb {gs:Array Goroutine} {w:World} {t:Trace} {θ:Nat->TS T} {s:Sh} {γ:Gh} {G D:Nat->Prop} {Dc:Nat->Nat->Prop} (h:MI P S AI free O gs w t θ s γ G D Dc):∀g∈gs,awake g:=by
 intro g hg;obtain ⟨i,hi,rfl⟩:=Array.mem_iff_getElem.1 hg;have h1:=h.one i gs[i] (aH hi);cases wC:θ i with
 |lv k d=>
  rw [wC] at h1;rcases h1.1.status with e|e<;>intro t ht<;>rw [e] at ht<;>cases ht
 |fe x=>
  rw [wC] at h1;have hrun:x.g.status= .running:=h1.2.1.running λ_ _ _=>jL
  rcases h1.1 with e|⟨_,_,e⟩<;>intro t ht<;>rw [e] at ht
  ·rw [hrun] at ht;cases ht
  ·cases ht
theorem MI.step (ok:sW S AI free rk lt) {gs:Array Goroutine} {w:World} {sl:Option (Nat×Nat)} {t:Trace} {θ:Nat->TS T} {s:Sh} {γ:Gh} {G D:Nat->Prop} {Dc:Nat->Nat->Prop} (h:MI P S AI free O gs w t θ s γ G D Dc):
 (∃x,θ 0= .fe x∧gs[0]?=some x.g∧x.tr= .leaf∧S.ret x.Tt=true)∨
 ∃gs' w' sl' ops Kn s' γ' G' D' FM,stepT P (crowd gs w sl)=(.next (crowd gs' w' sl'),ops)∧MI P S AI free O gs' w' (t++ops) Kn s' γ' G' D' FM∧Vh lt (ms rk gs' Kn s') (ms rk gs θ s):=by
 obtain ⟨x0,hx0⟩:=h.main
 by_cases hA:x0.tr= .leaf∧S.ret x0.Tt=true
 ·refine .inl ⟨x0,hx0,?_,hA⟩;have hp:=h.pos;have h1:=h.one 0 gs[0] (aH hp);rw [hx0] at h1;rcases h1.1 with e|⟨_,e,_⟩
  ·rw [<-e];exact aH hp
  ·exact absurd e (ok.MM _ _ hA.2)
 ·refine .inr ?_
  have some1:∃(i:Nat) (g:Goroutine),gs[i]?=some g∧g.status= .running:=by
   obtain ⟨i,Tt,hi,hφ,hnb⟩:=ok.alive h.ai;refine ⟨i,gs[i],aH hi,?_⟩;have h1:=h.one i gs[i] (aH hi);cases wC:θ i with
   |lv k d=>unfold stops at hφ;rw [wC] at hφ;cases hφ
   |fe x=>
    rw [wC] at h1;have :x.Tt=Tt:=by unfold stops at hφ;rw [wC] at hφ;exact aD hφ
    rcases h1.1 with e|⟨_,e,_⟩
    ·rw [e];exact h1.2.1.running λ_ _ _=>jL
    ·rw [this] at e;exact absurd e hnb
  obtain ⟨i,g,d,sl',hi,hg,hst⟩:=crowd_pick (P:=P) (w:=w) (sl:=sl) (Zb h) some1;have hm:=MI.at ok h d;generalize w.at d=wd at hst hm;have hlt:=(aa.1 hi).1;have h1:=hm.one i g hi;cases wC:θ i with
  |lv k d'=>
   obtain ⟨k',d'',g',es,hk,hgo,hm'⟩:=MI.leaver hm hi wC hg;refine ⟨_,_,sl',_,_,s,γ,G,D,Dc,by rw [hst,runT_crowd_go hi hgo],hm',?_⟩;unfold ms Vh;have hsz:((gs.map (woken P g g' wd)).setIfInBounds i g').size=gs.size:=by simp
   rw [hsz,ES (by rw [wC];rfl),GM]
   have htr:(trees gs.size θ).set i (TS.lv (T:=T) k' d'').tree=trees gs.size θ:=by
    apply List.ext_getElem?;intro j;rw [List.getElem?_set];split
    ·rename_i e;subst e;rw [GN hlt,wC];split
     ·rfl
     ·rename_i e;unfold trees at e;simp at e;omega
    ·rfl
   rw [htr];refine .right _ (.right _ (.left _ _ ?_));refine Og hlt (by rw [upd_same,wC];show k'<k;omega) λj _=>?_
   by_cases hj:j=i
   ·subst hj;rw [upd_same,wC];show k'<=k;omega
   ·rw [upd_ne hj];exact aj _
  |fe x=>
   rw [wC] at h1
   have hgx:g=x.g:=by
    rcases h1.1 with e|⟨_,_,e⟩
    ·exact e
    ·rw [e] at hg;cases hg
   subst hgx;cases htr:x.tr with
   |node f=>
    obtain ⟨g',w',es,hgo,hm'⟩:=MI.private ok hm hi wC htr;refine ⟨_,_,sl',_,_,s,_,G,D,Dc,by rw [hst,runT_crowd_go hi hgo],hm',?_⟩;unfold ms Vh;have hsz:((gs.map (woken P x.g g' w')).setIfInBounds i g').size=gs.size:=by simp
    rw [hsz,ES (by rw [wC];rfl),GM];refine .right _ (.left _ _ (nH.Tg (b:=.node f) ?_ ⟨f,wd,rfl,rfl⟩));rw [GN hlt,wC];exact congrArg some htr
   |leaf=>
    obtain ⟨_,Oe,EM,_⟩:=h1;rw [htr] at Oe;have MO:=(Oe wd EM).law;have hφ:stops θ i=some x.Tt:=by unfold stops;rw [wC];rfl
    obtain ⟨f1,f2,f3,f4⟩:=ok.fits hm.ai hlt hφ;obtain ⟨l1,l2,l3⟩:=MO;have l4:=l3 s hm.rep f1
    by_cases hr:S.ret x.Tt=true
    ·exfalso;have h0:=f4 hr;subst h0;rw [hx0] at wC;cases wC;exact hA ⟨htr,hr⟩
    rw [if_neg hr] at l4;have hr':S.ret x.Tt=false:=by simpa using hr
    by_cases hf:S.fork x.Tt=true
    ·rw [if_pos hf] at l4;obtain ⟨T',Tc,s',g',child,qG,own',a1,a2,a3,a4,a5,a6,a7⟩:=l4;have h0:=f3 hf;subst h0;obtain ⟨Vg,θc,γ',hm',hst'⟩:=MI.P5 ok hm hi wC hf a1 a3 a4 a5 a6 a7 x.g.frame.fn child.frame.fn x.g.frame.place x.g.frame.place;refine ⟨_,_,sl',_,_,s',γ',G,D,Dc,by rw [hst,runT_crowd_spawn hi a2];rfl,hm',?_⟩;unfold ms Vh;have hsz:((gs.setIfInBounds 0 g').push child).size=gs.size+1:=by simp
     rw [hsz,hst'];exact .left _ _ (ok.spawn hm.ai hφ hf a1).2
    ·rw [if_neg hf] at l4;have hf':S.fork x.Tt=false:=by simpa using hf
     rcases l4 with ⟨hb,hgo⟩|⟨hb,T',s',g',w',es,a1,a2,a3,a4,a5,a6,a7⟩
     ·have hm':=MI.waits hm hi wC htr hb
      have hmap:(gs.map (woken P x.g { x.g with status:=.blocked } wd)).setIfInBounds i { x.g with status:=.blocked }=gs.setIfInBounds i { x.g with status:=.blocked }:=by
       have :woken P x.g { x.g with status:=.blocked } wd=id:=by
        funext o;unfold woken;simp
       rw [this,Array.map_id]
      refine ⟨_,_,sl',_,θ,s,γ,G,D,Dc,by rw [hst,runT_crowd_go hi hgo,hmap],by
       have e:MemOp.ofEvents i x.g.frame.fn x.g.frame.place #[]= #[]:=rfl;rw [e,Array.append_empty];exact hm',?_⟩
      unfold ms Vh;have hsz:(gs.setIfInBounds i { x.g with status:=.blocked }).size=gs.size:=by simp
      rw [hsz];refine .right _ (.right _ (.right _ ?_))
      have hbi:bit (gs.setIfInBounds i { x.g with status:=.blocked }) i=0:=by
       unfold bit;rw [Array.getElem?_setIfInBounds_self_of_lt hlt]
      have ap8:bit gs i=1:=by
       unfold bit;rw [hi];simp only [hg]
      refine Og hlt (by rw [hbi,ap8];omega) λj _=>?_
      by_cases hj:j=i
      ·subst hj;rw [hbi];omega
      ·unfold bit;rw [Array.getElem?_setIfInBounds_ne (Ne.symm hj)];exact aj _
     ·have fin:∀{Kn:Nat->TS T} {γ' G' D' FM},MI P S AI free O ((gs.map (woken P x.g g' w')).setIfInBounds i g') w' (t++MemOp.ofEvents i x.g.frame.fn x.g.frame.place es) Kn s' γ' G' D' FM->stops Kn=upd (stops θ) i (if S.quit T' then none else some T')->
       ∃gs' w' sl' ops Kn s' γ' G' D' FM,stepT P (crowd gs w sl)=(.next (crowd gs' w' sl'),ops)∧MI P S AI free O gs' w' (t++ops) Kn s' γ' G' D' FM∧Vh lt (ms rk gs' Kn s') (ms rk gs θ s):=by
       intro Kn γ' G' D' FM hm' hst';refine ⟨_,_,sl',_,Kn,s',γ',G',D',FM,by rw [hst,runT_crowd_go hi a2],hm',?_⟩;unfold ms Vh;have hsz:((gs.map (woken P x.g g' w')).setIfInBounds i g').size=gs.size:=by simp
       rw [hsz,hst'];exact .left _ _ (ok.move hm.ai hlt hφ hf' hr' hb a1).2
      cases hk:S.kind x.Tt<;>rw [hk] at a7<;>dsimp only at a7
      case sU=>obtain ⟨sZ,γ',G',b1,b2⟩:=MI.VX ok hm hi wC hf' hr' hb a1 a3 a4 a5 a6 hk a7;exact fin b1 b2
      case sV=>obtain ⟨sZ,γ',G',b1,b2⟩:=MI.VY ok hm hi wC hf' hr' hb a1 a3 a4 a5 a6 hk a7;exact fin b1 b2
      case done=>obtain ⟨sZ,γ',D',FM,b1,b2⟩:=MI.Tq ok hm hi wC hf' hr' hb a1 a3 a4 a5 a6 hk a7.1 a7.2;exact fin b1 b2
      case join=>obtain ⟨sZ,γ',G',D',FM,b1,b2⟩:=MI.Tu ok hm hi wC hf' hr' hb a1 a3 a4 a5 a6 hk a7;exact fin b1 b2
      all_goals
       obtain ⟨sZ,b1,b2⟩:=MI.PZ ok hm hi wC hf' hr' hb a1 a3 a4 a5 a6 (by rw [hk];rfl) a7;exact fin b1 b2
theorem MI.run (ok:sW S AI free rk lt):∀(μ:Ms ρ) {gs:Array Goroutine} {w:World} {sl:Option (Nat×Nat)} {t:Trace} {θ:Nat->TS T} {s:Sh} {γ:Gh} {G D:Nat->Prop} {Dc:Nat->Nat->Prop},ms rk gs θ s=μ->MI P S AI free O gs w t θ s γ G D Dc->
 ∃N gs' w' sl' t' Kn s' γ' G' D' FM x,runNT P N (crowd gs w sl) t=(.next (crowd gs' w' sl'),t')∧MI P S AI free O gs' w' t' Kn s' γ' G' D' FM∧Kn 0= .fe x∧gs'[0]?=some x.g∧x.tr= .leaf∧S.ret x.Tt=true:=by
 intro μ
 induction μ using (Vh.wf ok.wf).induction with
 |_ μ ih=>
  intro gs w sl t θ s γ G D Dc hμ h;rcases MI.step (sl:=sl) ok h with ⟨x,h1,h2,h3,h4⟩|⟨gs1,w1,sl1,ops,θ1,s1,γ1,G1,D1,Dc1,h1,h2,h3⟩
  ·exact ⟨0,gs,w,sl,t,θ,s,γ,G,D,Dc,x,rfl,h,h1,h2,h3,h4⟩
  ·obtain ⟨N,gs',w',sl',t',Kn,s',γ',G',D',FM,x,r,rest⟩:=ih _ (by rw [<-hμ];exact h3) (sl:=sl1) rfl h2;exact ⟨N+1,gs',w',sl',t',Kn,s',γ',G',D',FM,x,by rw [runNT_succ_next h1];exact r,rest⟩
end
end Par
end
section
namespace Par
open Go Go.Conc Go.ConcM Go.ConcN
variable {O:Nat->Prop}
open Classical in
noncomputable def FZ (dead:Nat->Prop) (B:Nat):Gh:={ B:=B,who:= λl=>if dS l then (if dead (lb l) then .sy else .fe 0) else .fr,live:= λg=>g=0,act:= λ_=>False,lock:=none,wg:=none }
structure QF (P:Program) (dead:Nat->Prop) (gs:Array Goroutine) (w:World) (t:Trace) (g:Goroutine):Prop where
 main:gs[0]?=some g
 lv:∀i g',i≠0->gs[i]?=some g'->∃k,QuitsD P k (Deaf t i) g'
 d0:Deaf t 0=0
 nums:∀op∈t,op.g<gs.size
 dlt:∀b,dead b->b<w.heap.size
 ti:TI (FZ dead w.heap.size) t
def Z0:eG:={ ro:= λ_=>False,sy:= λ_=>False,cl:= λ_ _=>False }
def Ends (P:Program) (Post:Value->World->Prop) (m:Machine) (t:Trace):Prop:=
 ∃N last o w' t',runNT P (N+1) m t=(.ended o w',t')∧runN P N m= .next last∧step P last= .ended o w'∧Good P Post last o w' t'
theorem Ends.after {P:Program} {Post:Value->World->Prop} {m m':Machine} {t t':Trace} {N:Nat} (h:runNT P N m t=(.next m',t')) (he:Ends P Post m' t'):Ends P Post m t:=by
 obtain ⟨K,last,o,w',t'',h1,h2,h3,h4⟩:=he;refine ⟨N+K,last,o,w',t'',?_,?_,h3,h4⟩
 ·rw [Nat.add_assoc,runNT_add,h];exact h1
 ·have :=runNT_fst P N m t;rw [h] at this;rw [runN_add, <-this];exact h2
def iM (P:Program) (Post:Value->World->Prop) (dead own:Nat->Prop) (g:Goroutine) (W:World):Prop:=
 g.status= .running∧g.offers=none∧((∀b,own b->b<W.heap.size∧¬dead b)->∀W1,bZ Z0 own W W1->∀gs t sl,QF P dead gs W1 t g->Ends P Post (crowd gs W1 sl) t)
section
variable {T Sh ρ:Type} {P:Program} {S:Sys T Sh} {AI:Nat->(Nat->Option T)->Sh->Prop} {free:Sh->Prop} {rk:Nat->(Nat->Option T)->Sh->ρ} {lt:ρ->ρ->Prop} {Post:Value->World->Prop} {dead own:Nat->Prop} {g:Goroutine} {W w:World}
structure XQ (P:Program) (S:Sys T Sh) (AI:Nat->(Nat->Option T)->Sh->Prop) (free:Sh->Prop) (dead own:Nat->Prop) (g:Goroutine) (w:World) (T0:T) (s0:Sh) (Ro Gl Pt O:Nat->Prop):Prop where
 ql:∀b,dead b->S.syn b∨O b
 old:∀b,O b->b<w.heap.size∧¬S.syn b∧¬own b∧¬Ro b∧¬Gl b∧¬Pt b
 syn:∀b,S.syn b->b<w.heap.size
 own':∀b,own b->b<w.heap.size∧¬S.syn b∧¬Ro b∧¬Gl b∧¬Pt b
 ro:∀b,Ro b->b<w.heap.size∧¬S.syn b
 gl:∀b,Gl b->b<w.heap.size∧¬S.syn b∧¬Ro b
 pt:∀b,Pt b->b<w.heap.size∧¬S.syn b∧¬Ro b∧¬Gl b
 zro:∀b,(S.Z 0 T0).ro b->Ro b
 zsy:∀b,(S.Z 0 T0).sy b->S.syn b∨Pt b
 zcl:∀b k,(S.Z 0 T0).cl b k->(S.Z 0 T0).sy b∧Pt b
 ai:∀n,0<n->AI n (λi=>if i=0 then some T0 else none) s0
 quit:S.quit T0=false
 deaf:S.deaf T0=0
 rep:S.Dk s0 w
 j:free s0->S.J s0 Gl w
 dp:S.Dp s0 (λ_=>False) (λ_ _=>False) w
 wg:S.mE s0=none->∀b,¬Ro b∧¬Gl b∧¬Pt b
 on:On P S (At P S) 0 T0 own g w
theorem QF.open {gs:Array Goroutine} {t:Trace} (hq:QF P dead gs w t g) {T0:T} {s0:Sh} {Ro Gl Pt:Nat->Prop} (o:XQ P S AI free dead own g w T0 s0 Ro Gl Pt O):
 ∃θ γ,MI P S AI free O gs w t θ s0 γ Gl (λ_=>False) (λ_ _=>False):=by
 classical
 have hlt:=(aa.1 hq.main).1;obtain ⟨who',hwho⟩:∃who':Loc->Who,who'= λl=>if dS l then (if S.syn (lb l)∨O (lb l) then .sy else if Ro (lb l) then .ro else if Gl (lb l) then .lk else if Pt (lb l)∧l= .obj (lb l) then .pt else .fe 0) else .fr:=⟨_,rfl⟩
 have VZ:∀l,dS l->S.syn (lb l)∨O (lb l)->who' l= .sy:= λl h1 h2=>by rw [hwho];simp [h1,h2]
 have wro:∀l,dS l->¬(S.syn (lb l)∨O (lb l))->Ro (lb l)->who' l= .ro:= λl h1 h2 h3=>by rw [hwho];simp [h1,h2,h3]
 have wlk:∀l,dS l->¬(S.syn (lb l)∨O (lb l))->¬Ro (lb l)->Gl (lb l)->who' l= .lk:= λl h1 h2 h3 h4=>by rw [hwho];simp [h1,h2,h3,h4]
 have wpt:∀b,¬(S.syn b∨O b)->¬Ro b->¬Gl b->Pt b->who' (.obj b)= .pt:= λb h2 h3 h4 h5=>by
  rw [hwho];have h1:dS (.obj b):=trivial;have e:lb (.obj b)=b:=rfl;simp only [h1,e,h2,h3,h4,h5,if_true,if_false,and_self]
 have XN:∀l,dS l->¬(S.syn (lb l)∨O (lb l))->¬Ro (lb l)->¬Gl (lb l)->¬(Pt (lb l)∧l= .obj (lb l))->who' l= .fe 0:= λl h1 h2 h3 h4 h5=>by rw [hwho];simp only [h1,h2,h3,h4,h5,if_true,if_false]
 have wfr:∀l,¬dS l->who' l= .fr:= λl h1=>by rw [hwho];simp [h1]
 have q0:∀l,dS l->¬dead (lb l)->(FZ dead w.heap.size).who l= .fe 0:= λl h1 h2=>by unfold FZ;simp [h1,h2]
 have q1:∀l,dS l->dead (lb l)->(FZ dead w.heap.size).who l= .sy:= λl h1 h2=>by unfold FZ;simp [h1,h2]
 have q2:∀l,¬dS l->(FZ dead w.heap.size).who l= .fr:= λl h1=>by unfold FZ;simp [h1]
 obtain ⟨γ,hγ⟩:∃γ:Gh,γ= { FZ dead w.heap.size with who:=who',wg:=S.mE s0,lock:=S.dY s0 }:=⟨_,rfl⟩;have mY:γ.who=who':=by rw [hγ]
 have hti:TI γ t:=by
  rw [hγ];refine hq.ti.ah2 (λg hg=>hg) (λl=>?_) (λ_ _ h=>h) rfl rfl _ _
  by_cases hm:dS l
  ·by_cases hd:dead (lb l)
   ·exact .inl (by rw [q1 l hm hd,VZ l hm (o.ql _ hd)])
   ·by_cases h2:S.syn (lb l)∨O (lb l)
    ·exact .inr ⟨q0 l hm hd,.inr (.inr (.inl (VZ l hm h2)))⟩
    by_cases h3:Ro (lb l)
    ·exact .inr ⟨q0 l hm hd,.inl (wro l hm h2 h3)⟩
    by_cases h4:Gl (lb l)
    ·exact .inr ⟨q0 l hm hd,.inr (.inl (wlk l hm h2 h3 h4))⟩
    by_cases h5:Pt (lb l)∧l= .obj (lb l)
    ·have :=wpt _ h2 h3 h4 h5.1;rw [<-h5.2] at this;exact .inr ⟨q0 l hm hd,.inr (.inr (.inr this))⟩
    ·exact .inl (by rw [XN l hm h2 h3 h4 h5,q0 l hm hd])
  ·exact .inl (by rw [wfr l hm,q2 l hm])
 have noO:∀b,own b∨Ro b∨Gl b∨Pt b->¬S.syn b->¬(S.syn b∨O b):= λb hb hs hx=>by
  rcases hx with hx|hx
  ·exact hs hx
  ·obtain ⟨_,_,a1,a2,a3,a4⟩:=o.old b hx;rcases hb with hb|hb|hb|hb
   ·exact a1 hb
   ·exact a2 hb
   ·exact a3 hb
   ·exact a4 hb
 have hR:eU γ w.heap.size 0 (S.Z 0 T0) own:=by
  refine ⟨λb hb=>⟨(o.own' b hb).1, λl h1 h2=>?_⟩, λb c hb=>⟨(o.zcl b c hb).1,?_, λa e1 e2=>?_⟩, λb hb=>⟨(o.ro b (o.zro b hb)).1, λl h1 h2=>?_⟩, λb hb=>?_⟩
  ·obtain ⟨_,a1,a2,a3,a4⟩:=o.own' b hb;rw [mY];exact XN l h1 (by rw [h2];exact noO b (.inl hb) a1) (by rw [h2];exact a2) (by rw [h2];exact a3) (by rw [h2];exact λx=>a4 x.1)
  ·obtain ⟨_,a1,a2,a3⟩:=o.pt b (o.zcl b c hb).2;rw [mY];exact wpt b (noO b (.inr (.inr (.inr (o.zcl b c hb).2))) a1) a2 a3 (o.zcl b c hb).2
  ·obtain ⟨_,a1,a2,a3⟩:=o.pt b (o.zcl b c hb).2;rw [mY];exact XN _ trivial (by show ¬(S.syn a.block∨O a.block);rw [e1];exact noO b (.inr (.inr (.inr (o.zcl b c hb).2))) a1) (by show ¬Ro a.block;rw [e1];exact a2) (by show ¬Gl a.block;rw [e1];exact a3) (λx=>by cases x.2)
  ·obtain ⟨_,a1⟩:=o.ro b (o.zro b hb);rw [mY];exact wro l h1 (by rw [h2];exact noO b (.inr (.inl (o.zro b hb))) a1) (by rw [h2];exact o.zro b hb)
  ·rcases o.zsy b hb with h1|h1
   ·exact ⟨o.syn b h1,.inl (by rw [mY];exact VZ (.obj b) trivial (.inl h1))⟩
   ·obtain ⟨a0,a1,a2,a3⟩:=o.pt b h1;exact ⟨a0,.inr (by rw [mY];exact wpt b (noO b (.inr (.inr (.inr h1))) a1) a2 a3 h1)⟩
 obtain ⟨Vg,Za,Tv,Tw⟩:=tq (s':=s0) (t':=t) o.quit o.on (by rw [hq.d0,o.deaf]) (γ':=γ) (by rw [hγ];rfl) (λh0=>absurd rfl h0) hR;rw [if_neg (by rw [o.quit];simp)] at Tv
 let θ:Nat->TS T:= λi=>if i=0 then Vg else if h:∃g' k,gs[i]?=some g'∧QuitsD P k (Deaf t i) g' then .lv h.choose_spec.choose (Deaf t i) else .lv 0 0
 have ap9:∀i g',i≠0->gs[i]?=some g'->∃k,θ i= .lv k (Deaf t i)∧QuitsD P k (Deaf t i) g':=by
  intro i g' h0 hg;obtain ⟨k,hk⟩:=hq.lv i g' h0 hg;have h:∃g' k,gs[i]?=some g'∧QuitsD P k (Deaf t i) g':=⟨g',k,hg,hk⟩
  refine ⟨h.choose_spec.choose,?_,?_⟩
  ·show (if i=0 then Vg else if h:∃g' k,gs[i]?=some g'∧QuitsD P k (Deaf t i) g' then TS.lv h.choose_spec.choose (Deaf t i) else .lv 0 0)=_;rw [if_neg h0,dif_pos h]
  ·have h3:=h.choose_spec.choose_spec;have e:g'=h.choose:=aD (hg.symm.trans h3.1);rw [e];exact h3.2
 have hstops:stops θ= λi=>if i=0 then some T0 else none:=by
  funext i;unfold stops
  by_cases h0:i=0
  ·subst h0;exact Tv
  ·show (if i=0 then Vg else if h:∃g' k,gs[i]?=some g'∧QuitsD P k (Deaf t i) g' then TS.lv h.choose_spec.choose (Deaf t i) else .lv 0 0).stop?=_;rw [if_neg h0,if_neg h0];split<;>rfl
 refine ⟨θ,γ,⟨λi gi hi=>?_,Tw,hlt,by rw [hstops];exact o.ai _ hlt,o.rep,hti,by rw [hγ];rfl,hq.nums, λb hb=>⟨hb.elim (o.syn b) λx=>(o.old b x).1, λl h1 h2=>by rw [mY];exact VZ l h1 (by rw [h2];exact hb)⟩, λl hl=>by rw [mY];exact wfr l hl, λl hl=>?_, λi hi=>?_, λhn l hl hs=>?_,by rw [hγ],by rw [hγ], λhf=>⟨o.j hf, λb hb=>⟨(o.gl b hb).1, λl h1 h2=>?_⟩⟩,o.dp, λb hb=>hb.elim, λb k hb=>hb.elim⟩⟩
 ·by_cases h0:i=0
  ·subst h0;rw [hq.main] at hi;cases hi;exact Za
  ·obtain ⟨k,h1,h2⟩:=ap9 i gi h0 hi;rw [h1];exact ⟨h2,rfl,h0, λha=>by rw [hγ] at ha;exact ha⟩
 ·rw [mY]
  by_cases h2:S.syn (lb l)∨O (lb l)
  ·rw [VZ l hl h2];exact ⟨by simp, λ_=>h2⟩
  by_cases h3:Ro (lb l)
  ·rw [wro l hl h2 h3];exact ⟨by simp,by simp⟩
  by_cases h4:Gl (lb l)
  ·rw [wlk l hl h2 h3 h4];exact ⟨by simp,by simp⟩
  by_cases h5:Pt (lb l)∧l= .obj (lb l)
  ·have :=wpt _ h2 h3 h4 h5.1;rw [<-h5.2] at this;rw [this];exact ⟨by simp,by simp⟩
  ·rw [XN l hl h2 h3 h4 h5];exact ⟨by simp,by simp⟩
 ·rw [hγ] at hi;exact hi.elim
 ·obtain ⟨a1,a2,a3⟩:=o.wg hn (lb l);rw [mY];exact XN l hl hs a1 a2 (λx=>a3 x.1)
 ·obtain ⟨_,a1,a2⟩:=o.gl b hb;rw [mY];exact wlk l h1 (by rw [h2];exact noO b (.inr (.inr (.inl hb))) a1) (by rw [h2];exact a2) (by rw [h2];exact hb)
theorem MI.close {gs:Array Goroutine} {t:Trace} {θ:Nat->TS T} {s:Sh} {γ:Gh} {G D:Nat->Prop} {Dc:Nat->Nat->Prop} (h:MI P S AI free O gs w t θ s γ G D Dc)
 {x:Tk T} (h0:gs[0]?=some x.g) (hx:θ 0= .fe x) (hl:S.dY s=none) (hw:S.mE s=none) (hd:S.deaf x.Tt=0) (hj:∀j,j<gs.size->j≠0->stops θ j=none):
 QF P (λb=>S.syn b∨O b) gs w t x.g∧∀b,x.own b->b<w.heap.size∧¬(S.syn b∨O b):=by
 classical
 have h1:=h.one 0 x.g h0;rw [hx] at h1;obtain ⟨_,_,_,hDeaf,mU,_,dh⟩:=h1
 have lvs:∀i g',i≠0->gs[i]?=some g'->∃k d,θ i= .lv k d∧QuitsD P k d g'∧Deaf t i=d∧¬γ.act i:=by
  intro i g' hi hg;have h1:=h.one i g' hg;cases wC:θ i with
  |fe y=>
   have :=hj i (aa.1 hg).1 hi;unfold stops at this;rw [wC] at this;cases this
  |lv k d=>rw [wC] at h1;exact ⟨k,d,rfl,h1.1,h1.2.1,h1.2.2.2⟩
 have hno:∀i,i≠0->¬γ.act i:= λi hi ha=>by
  have hlt:=h.Bb i ha;obtain ⟨_,_,_,_,_,hn⟩:=lvs i gs[i] hi (aH hlt);exact hn ha
 have hwho:γ.who=(FZ (λb=>S.syn b∨O b) w.heap.size).who:=by
  funext l
  by_cases hm:dS l
  ·by_cases hs:S.syn (lb l)∨O (lb l)
   ·rw [(h.syn _ hs).2 l hm rfl];unfold FZ;simp [hm,hs]
   ·rw [h.jn hw l hm hs];unfold FZ;simp [hm,hs]
  ·rw [h.nomem l hm];unfold FZ;simp [hm]
 refine ⟨⟨h0, λi g' hi hg=>?_,by rw [hDeaf,hd],h.nums, λb hb=>(h.syn b hb).1,?_⟩, λb hb=>⟨(dh.own b hb).1, λhs=>?_⟩⟩
 ·obtain ⟨k,d,_,h2,h3,_⟩:=lvs i g' hi hg;exact ⟨k,by rw [h3];exact h2⟩
 ·have hti:=h.ti;have hnw:=hti.new;rw [h.B] at hnw;refine ⟨λl i hl=>hti.fe l i (by rw [hwho];exact hl), λl i hl hlv=>hti.ro l i (by rw [hwho];exact hl) (by have hlv:i=0:=hlv;rw [hlv];exact mU), λi z op hs hz hop=>?_, λl i z hl hz e=>?_,hnw, λi op hi hg hs=>?_,hti.nr,hti.nl⟩
  ·refine (hti.sy i z op (by rw [hwho];exact hs) hz hop).imp id λh1 k hk=>?_
   have hk:k=0:=hk;rw [hk];exact h1 0 mU
  ·exfalso;have hl:(FZ (λb=>S.syn b∨O b) w.heap.size).who l= .lk:=hl;unfold FZ at hl;dsimp only at hl;split at hl
   ·split at hl<;>cases hl
   ·cases hl
  ·have hs':Says γ t i:=hs.imp id λ⟨z,hz,hn⟩=>⟨z,hz,by rw [hwho];exact hn⟩
   rcases hti.ho i op hi hg hs' with h2|h2|⟨a0,h2,_⟩
   ·exact absurd h2 (hno _ hg)
   ·exact .inr (.inl h2)
   ·rw [h.mE,hw] at h2;cases h2
 ·have :=((h.syn b hs).2 (.obj b) trivial rfl).symm.trans (dh.mF hb);cases this
end
end Par
end
section
namespace Par
open Go Go.Conc Go.ConcM Go.ConcN
section
variable {P:Program} {Post:Value->World->Prop} {dead own:Nat->Prop} {g:Goroutine} {W w:World}
theorem iM.rely {W1:World} (h:iM P Post dead own g W) (hlt:∀b,own b->b<W.heap.size) (hr:bZ Z0 own W W1):iM P Post dead own g W1:=
 ⟨h.1,h.2.1, λho W2 h2=>h.2.2 (λb hb=>⟨hlt b hb,(ho b hb).2⟩) W2 (hr.trans h2)⟩
theorem iM.phase {T Sh ρ:Type} {S:Sys T Sh} {AI:Nat->(Nat->Option T)->Sh->Prop} {free:Sh->Prop} {rk:Nat->(Nat->Option T)->Sh->ρ} {lt:ρ->ρ->Prop} (ok:sW S AI free rk lt)
 (fin:∀{n φ s Tt},AI n φ s->0<n->φ 0=some Tt->S.ret Tt=true->S.dY s=none∧S.mE s=none∧S.deaf Tt=0∧∀j,j<n->j≠0->φ j=none)
 (hg:g.status= .running) (hoff:g.offers=none)
 (h:∀W1,bZ Z0 own W W1->(∀b,dead b->b<W1.heap.size)->(∀b,own b->b<W1.heap.size∧¬dead b)->∃cB T0 s0 Ro Gl Pt O,XQ P S AI free dead cB g W1 T0 s0 Ro Gl Pt O∧
   ∀Tt own g W,S.ret Tt=true->S.Anch Tt own g W->(∀b,own b->b<W.heap.size∧¬(S.syn b∨O b))->iM P Post (λb=>S.syn b∨O b) own g W):iM P Post dead own g W:=by
 refine ⟨hg,hoff, λho W1 hr gs t sl hq=>?_⟩;obtain ⟨cB,T0,s0,Ro,Gl,Pt,O,o,hk⟩:=h W1 hr hq.dlt λb hb=>⟨ak (ho b hb).1 hr.size,(ho b hb).2⟩
 obtain ⟨θ,γ,hm⟩:=hq.open o;obtain ⟨N,gs',w',sl',t',Kn,s',γ',G',D',FM,x,hrun,hm',hx,hgx,hl,hret⟩:=MI.run (sl:=sl) ok _ rfl hm;have hφ:stops Kn 0=some x.Tt:=by unfold stops;rw [hx];rfl
 obtain ⟨f1,f2,f3,f4⟩:=fin hm'.ai hm'.pos hφ hret;obtain ⟨hq',hown⟩:=hm'.close hgx hx f1 f2 f3 f4;have h1:=hm'.one 0 x.g hgx;rw [hx] at h1;obtain ⟨_,Oe,EM,_⟩:=h1;rw [hl] at Oe;have MO:=(Oe w' EM).law;have hA:=MO.2.2 s' hm'.rep (ok.fits hm'.ai hm'.pos hφ).1;rw [if_pos hret] at hA;exact Ends.after hrun ((hk _ _ _ _ hret hA hown).2.2 hown w' (bZ.refl _) gs' t' sl' hq')
def quiet (dead:Nat->Prop) (X:(Nat->Prop)->Goroutine->World->Prop):Sys Unit Unit where
 Dk:= λ_ _=>True
 syn:=dead
 dY:= λ_=>none
 mE:= λ_=>none
 mv:= λ_ _ _ _ _=>False
 sp:= λ_ _ _ _ _=>False
 blk:= λ_ _=>False
 wakes:= λ_=>false
 kind:= λ_=>.disable
 fork:= λ_=>false
 ret:= λ_=>true
 quit:= λ_=>false
 deaf:= λ_=>0
 past:= λ_=>false
 Z:= λ_ _=>Z0
 J:= λ_ _ _=>True
 Dp:= λ_ _ _ _=>True
 fits:= λ_ _ _=>True
 Anch:= λ_=>X
def V3 (n:Nat) (φ:Nat->Option Unit) (_:Unit):Prop:=0<n∧φ= λi=>if i=0 then some () else none
theorem V4 (dead:Nat->Prop) (X:(Nat->Prop)->Goroutine->World->Prop):sW (quiet dead X) V3 (λ_=>False) (λ_ _ _=>(0:Nat)) Nat.lt where
 wf:=Nat.lt_wfRel.wf
 fits:= λ{n φ s i Tt} h hi hφ=>by
  refine ⟨trivial,rfl, λh=>(by cases h), λ_=>?_⟩;obtain ⟨_,rfl⟩:=h;dsimp only at hφ;split at hφ
  ·assumption
  ·cases hφ
 move:= λ_ _ _ _ _ _ h=>h.elim
 spawn:= λ_ _ _ h=>h.elim
 ML:= λ_ _ _ h=>h.elim
 stay:= λ_ _ _ _ _ h=>h.elim (λh=>h.elim) (λ⟨_,h⟩=>h.elim)
 A8:= λ_ h=>by cases h
 iJ:= λ_ _ _ h=>h.elim
 plain:= λ_ _ _ h=>h.elim
 sU:= λ_ _ _ h=>h.elim
 sV:= λ_ _ _ h=>h.elim
 done:= λ_ _ _ h=>h.elim
 join:= λ_ _ _ h=>h.elim
 joined:= λh _ j _ hj=>by obtain ⟨_,rfl⟩:=h;exact if_neg hj
 quits:= λ_ _ _ h=>h.elim
 IX:= λ_ _ _=>⟨λh=>(by cases h), λh=>(by cases h)⟩
 alive:= λh=>by obtain ⟨h1,rfl⟩:=h;exact ⟨0,(),h1,rfl, λh=>h⟩
 MM:= λ_ _ _ h=>h
 GH:= λ_ _ _ _=>trivial
 yw:= λ_ _ _ _ _=>trivial
 xR:= λ_ _ _ _ _ _=>trivial
 Ba:= λ_ _ _ _ _ _ _ _=>trivial
theorem iM.walk (h:Gw P true Z0 (λown g W=>iM P Post dead own g W) own g W) (hg:g.status= .running) (hoff:g.offers=none):iM P Post dead own g W:=by
 refine iM.phase (S:=quiet dead λown g W=>iM P Post dead own g W) (V4 dead _) (λ{n φ s Tt} h hn h0 hr=>⟨rfl,rfl,rfl, λj _ hj=>by obtain ⟨_,rfl⟩:=h;exact if_neg hj⟩) hg hoff (λW1 hr hd ho=>?_);have eD:(λb=>(quiet dead λown g W=>iM P Post dead own g W).syn b∨False)=dead:=funext λb=>propext ⟨λh=>h.elim id False.elim,.inl⟩
 refine ⟨own,(),(), λ_=>False, λ_=>False, λ_=>False, λ_=>False,⟨λ_ h=>.inl h, λ_ h=>False.elim h,hd, λb hb=>⟨(ho b hb).1,(ho b hb).2, λh=>h, λh=>h, λh=>h⟩, λ_ h=>h.elim, λ_ h=>h.elim, λ_ h=>h.elim, λ_ h=>h.elim, λ_ h=>h.elim, λ_ _ h=>h.elim, λn hn=>⟨hn,rfl⟩,rfl,rfl,trivial, λh=>h.elim,trivial, λ_ _=>⟨λh=>h, λh=>h, λh=>h⟩,?_⟩, λ_ _ _ _ _ h _=>by rw [eD];exact h⟩;unfold On;rw [if_neg (by show ¬(false=true);simp)];refine Gw.mono (λown g W hl=>?_) (h.rely hr);refine At.intro (X:= λi _ own g W=>i=0∧iM P Post dead own g W) (λi Tt own g W hx=>?_) ⟨rfl,hl⟩;refine ⟨hx.2.1, λ_=>hx.2.2.1, λs _ _=>?_⟩;exact (if_pos (c:=(quiet dead λown g W=>iM P Post dead own g W).ret Tt=true) rfl).mpr hx.2
theorem P7 {t u:Trace} {B:Nat} (h:TI (FZ dead B) t) (hu:∀op∈u,op.g=0) (hok:∀op∈u,∀x,op.act.touch?=some x->OkT (FZ dead B).who 0 x∧(dS x.loc->lb x.loc<B)) (hr:∀op∈u,∀a,op.act≠ .mark (.release a)):TI (FZ dead B) (t++u):=
 TI.app (γ:=FZ dead B) (B':=B) h (aj _) rfl hu hok (.inl rfl) hr
theorem QF.ends (hstep:∀W1,bZ Z0 own W W1->∃v W2 es,stepG P true g W1= .ended (.done v) W2 es∧(∀e∈es,PG Z0 own e)∧Post v W2) (hg:g.status= .running):∀(M:Nat) (q:Nat->Nat) {gs:Array Goroutine} {w:World} {sl:Option (Nat×Nat)} {t:Trace},sm gs.size q<M->
 bZ Z0 own W w->(∀b,own b->b<w.heap.size∧¬dead b)->QF P dead gs w t g->(∀i g',i≠0->gs[i]?=some g'->QuitsD P (q i) (Deaf t i) g')->Ends P Post (crowd gs w sl) t:=by
 intro M
 induction M with
 |zero=>intro q gs w sl t hM;omega
 |succ M ih=>
  intro q gs w sl t hM hr ho hq hlv;have hlt:=(aa.1 hq.main).1
  have haw:∀g∈gs,awake g:=by
   intro g' hg';obtain ⟨i,hi,rfl⟩:=Array.mem_iff_getElem.1 hg'
   by_cases h0:i=0
   ·subst h0;have :gs[0]=g:=by simpa [aH hi] using hq.main
    rw [this];intro t ht;rw [hg] at ht;cases ht
   ·rcases (hlv i _ h0 (aH hi)).status with e|e<;>intro t ht<;>rw [e] at ht<;>cases ht
  obtain ⟨i,gi,d,sl',hi,hgi,hst⟩:=crowd_pick (P:=P) (w:=w) (sl:=sl) haw ⟨0,g,hq.main,hg⟩;have hrd:bZ Z0 own W (w.at d):=hr.trans (Od w d)
  by_cases h0:i=0
  ·subst h0;obtain rfl:gi=g:=by rw [hq.main] at hi;exact (aD hi).symm
   obtain ⟨v,W2,es,hend,hes,hpost⟩:=hstep (w.at d) hrd;have hrunT:=runT_many_ended (P:=P) (sl:=sl') (i:=0) hi (show stepG P (0==0) gi (w.at d)=_ from hend);have hs:=hst.trans hrunT
   have hti:TI (FZ dead w.heap.size) (t++MemOp.ofEvents 0 gi.frame.fn gi.frame.place es):=by
    refine P7 hq.ti (λop hop=>by obtain ⟨e,_,rfl⟩:=mem_ofEvents hop;rfl) (λop hop x hx=>?_) (λop hop a=>?_)
    ·obtain ⟨e,he,rfl⟩:=mem_ofEvents hop;obtain ⟨_,hev⟩:=hes e he;obtain ⟨loc,wr,sy⟩:=e;have q0:∀l,dS l->¬dead (lb l)->(FZ dead w.heap.size).who l= .fe 0:= λl h1 h2=>by unfold FZ;simp [h1,h2]
     cases loc with
     |cell a=>
      obtain ⟨hs,hor⟩:=hev;have hs:sy=false:=hs;subst hs
      have hx':x=⟨.cell a,wr,.plain⟩:=by
       have :(MemAct.ofEvent ⟨.cell a,wr,false⟩).touch?=some ⟨.cell a,wr,.plain⟩:=by cases wr<;>rfl
       rw [this] at hx;exact (aD hx).symm
      subst hx';have ho':own a.block:=hor.elim (λh=>h) λh=>h.elim (λh=>h.1.elim) λh=>h.elim
      exact ⟨.inl (q0 _ trivial (ho _ ho').2), λ_=>(ho _ ho').1⟩
     |obj r=>
      obtain ⟨hs,hor⟩:=hev;have hs:sy=false:=hs;subst hs
      have hx':x=⟨.obj r,wr,.plain⟩:=by
       have :(MemAct.ofEvent ⟨.obj r,wr,false⟩).touch?=some ⟨.obj r,wr,.plain⟩:=by cases wr<;>rfl
       rw [this] at hx;exact (aD hx).symm
      subst hx';exact ⟨.inl (q0 _ trivial (ho _ hor).2), λ_=>(ho _ hor).1⟩
     |mark m=>
      have hm:m= .noRoom:=hev;subst hm;exfalso;have :(MemAct.ofEvent ⟨.mark .noRoom,wr,sy⟩).touch?=none:=by cases wr<;>cases sy<;>rfl
      rw [this] at hx;cases hx
     |output=>exact hev.elim
     |goroutines=>exact hev.elim
    ·obtain ⟨e',he,rfl⟩:=mem_ofEvents hop;obtain ⟨_,hev⟩:=hes e' he;obtain ⟨loc,wr,sy⟩:=e';intro e;cases loc with
     |mark m=>
      have hm:m= .noRoom:=hev;subst hm;have :MemAct.ofEvent ⟨.mark .noRoom,wr,sy⟩= .mark .noRoom:=by cases wr<;>cases sy<;>rfl
      have e:MemAct.ofEvent ⟨.mark .noRoom,wr,sy⟩= .mark (.release a):=e;rw [this] at e;cases e
     |cell _=>
      have e:MemAct.ofEvent ⟨.cell _,wr,sy⟩= .mark (.release a):=e;cases wr<;>cases sy<;>cases e
     |obj _=>
      have e:MemAct.ofEvent ⟨.obj _,wr,sy⟩= .mark (.release a):=e;cases wr<;>cases sy<;>cases e
     |output=>exact hev.elim
     |goroutines=>exact hev.elim
   refine ⟨0,crowd gs w sl,.done v,W2,_,by simp only [runNT,hs],rfl,?_,v,rfl,hpost,hti.nr,handed λi op hi hg hc=>?_,⟨λx hx=>?_,rfl⟩, λj x hx hj=>?_⟩
   ·simp only [step,hs]
   ·rcases hti.ho i op hi hg (.inl hc) with h1|h1|⟨a0,h1,_⟩
    ·exact h1.elim
    ·exact h1
    ·cases h1
   ·obtain ⟨j,hj⟩:=List.mem_iff_getElem?.1 hx;rw [List.getElem?_drop] at hj;exact ⟨_,(hlv (1+j) x (by omega) (by simpa [crowd] using hj)).leaves⟩
   ·have hqj:=hlv j x (by omega) hx;refine ⟨q j,?_⟩
    have e:(t++MemOp.ofEvents 0 gi.frame.fn gi.frame.place es).deaf j (t++MemOp.ofEvents 0 gi.frame.fn gi.frame.place es).size=Deaf t j:=
     Deaf_other t (g:=j) (g':=0) (by omega) _ (λop hop=>by obtain ⟨e,_,rfl⟩:=mem_ofEvents hop;rfl)
    rw [e];exact hqj.hears _
  ·have hqi:=hlv i gi h0 hi;have hi0:(i==0)=false:=by simpa using h0
   have Zc:=(aa.1 hi).1;cases hk:q i with
   |zero=>rw [hk] at hqi;rw [hqi.1] at hgi;cases hgi
   |succ k=>
    rw [hk] at hqi;rcases hqi with ⟨hf,_⟩|⟨_,g',es,hm,hstp,hq'⟩
    ·rw [hf] at hgi;cases hgi
    have hdec:sm gs.size (upd q i k)<sm gs.size q:=Og Zc (by rw [upd_same,hk];omega) λj _=>by
     by_cases hj:j=i
     ·subst hj;rw [upd_same,hk];omega
     ·rw [upd_ne hj];exact aj _
    have hrunT:=runT_crowd_go (P:=P) (sl:=sl') (i:=i) hi (by rw [hi0];exact hstp (w.at d));have hsz:((gs.map (woken P gi g' (w.at d))).setIfInBounds i g').size=gs.size:=by simp
    have ah9:∀j x,j≠0->((gs.map (woken P gi g' (w.at d))).setIfInBounds i g')[j]?=some x->QuitsD P (upd q i k j) (Deaf (t++MemOp.ofEvents i gi.frame.fn gi.frame.place es) j) x:=by
     intro j x hj hx
     by_cases hji:i=j
     ·subst hji;rw [Array.getElem?_setIfInBounds_self_of_lt (by simpa using Zc)] at hx;obtain rfl:=aD hx;rw [upd_same,Deaf_own];exact hq'
     ·rw [Array.getElem?_setIfInBounds_ne hji,Array.getElem?_map] at hx;obtain ⟨y,hy,rfl⟩:=Option.map_eq_some_iff.1 hx;have hqj:=hlv j y hj hy;rw [woken_quitsD hqj,upd_ne (Ne.symm hji),Deaf_other t hji _ (λop hop=>by obtain ⟨e,_,rfl⟩:=mem_ofEvents hop;rfl)];exact hqj
    have h:=ih (upd q i k) (gs:=(gs.map (woken P gi g' (w.at d))).setIfInBounds i g') (w:=w.at d) (sl:=sl') (t:=t++MemOp.ofEvents i gi.frame.fn gi.frame.place es) (by rw [hsz];omega) hrd ho
     ⟨by
       rw [Array.getElem?_setIfInBounds_ne h0,Array.getElem?_map,hq.main];simp only [Option.map_some,Option.some.injEq];unfold woken;split
       ·exact again_running _ (.inl hg)
       ·rfl, λj x hj hx=>⟨_,ah9 j x hj hx⟩,by rw [Deaf_other t h0 _ (λop hop=>by obtain ⟨e,_,rfl⟩:=mem_ofEvents hop;rfl)];exact hq.d0,by rw [hsz];exact xU hq.nums Zc _ _ _,hq.dlt,
       hq.ti.MK (λop hop=>by obtain ⟨e,he,rfl⟩:=mem_ofEvents hop;exact touch_mute (hm e he)) (λop hop a=>by obtain ⟨e,he,rfl⟩:=mem_ofEvents hop;exact Be (hm e he) a)⟩ ah9
    exact Ends.after (N:=1) (by simp only [runNT];rw [hst,hrunT]) h
theorem iM.ret (hstep:∀W1,bZ Z0 own W W1->∃v W2 es,stepG P true g W1= .ended (.done v) W2 es∧(∀e∈es,PG Z0 own e)∧Post v W2) (hg:g.status= .running) (hoff:g.offers=none):iM P Post dead own g W:=by
 classical
 refine ⟨hg,hoff, λho W1 hr gs t sl hq=>?_⟩;refine QF.ends hstep hg (_+1) (λi=>if h:∃k g',i≠0∧gs[i]?=some g'∧QuitsD P k (Deaf t i) g' then h.choose else 0) (Nat.lt_succ_self _) hr (λb hb=>⟨ak (ho b hb).1 hr.size,(ho b hb).2⟩) hq λi g' h0 hi=>?_
 obtain ⟨k,hk⟩:=hq.lv i g' h0 hi;have h:∃k g',i≠0∧gs[i]?=some g'∧QuitsD P k (Deaf t i) g':=⟨k,g',h0,hi,hk⟩
 rw [dif_pos h];obtain ⟨g1,_,h1,h2⟩:=h.choose_spec;rw [hi] at h1;cases h1;exact h2
theorem iM.start (h:iM P Post (λ_=>False) own g W) (ho:∀b,own b->b<W.heap.size):Ends P Post (solo g W) #[]:=by
 rw [solo_eq_crowd];refine h.2.2 (λb hb=>⟨ho b hb, λh=>h⟩) W (bZ.refl _) #[g] #[] none ⟨rfl, λi g' hi hg=>?_,rfl, λop hop=>by simp at hop, λ_ h=>h.elim,?_⟩
 ·have :=(aa.1 hg).1;simp at this;exact absurd this hi
 ·have no:∀{i x},touchAt #[] i=some x->False:= λ{i x} h=>by simp [touchAt,Trace.act?] at h
  exact ⟨λl g _ i x hx=>(no hx).elim, λl g _ _ i x hx=>(no hx).elim, λi x op _ hx=>(no hx).elim, λl i x _ hx=>(no hx).elim, λi x hx=>(no hx).elim, λi op hi=>by simp at hi, λsaid=>past_nil.clean said, λa i=>by simp [Trace.act?]⟩
end
end Par
end
section
namespace Par
open Go Go.Conc Go.ConcM Go.ConcN
structure Body (B Sb:Type) where
 dY:Option Addr
 rep:Sb->World->Prop
 J:Sb->(Nat->Prop)->World->Prop
 free:Sb->Prop
 init:Nat->Option B->Prop
 mv:Nat->B->Sb->Option B->Sb->Prop
 blk:B->Sb->Prop
 wakes:B->Bool
 kind:B->Kind
 deaf:B->Nat
 fits:Nat->B->Sb->Prop
 fin:Sb->Prop
inductive jU where
 |P8|MP|Lu|MQ|ET|kd|w1 (b:Nat)|w2 (v:Nat)|Vi|w3|w4|ke|aq|fin
inductive ru where
 |wr|k1|d1|d2|d3|d4|qt
inductive FT (B:Type) where
 |st (pc:jU) (j:Nat)
 |bd (k:Nat) (b:B)
 |wg (k:Nat) (pc:ru)
structure tu (Sb:Type) where
 v:Nat
 wt:Nat
 sm:Nat
 jn:Bool
 dn:Nat->Bool
 b:Sb
structure EU (B Sb:Type) where
 body:Body B Sb
 N:Nat
 ty:TypeId
 Wg:Nat
 syn:Nat->Prop
 ro:Nat->Prop
 pt:Nat->Prop
 cl:Nat->Nat->Nat->Prop
 Dp:(Nat->Bool)->(Nat->Prop)->(Nat->Nat->Prop)->World->Prop
 Anch:(Nat->Prop)->Goroutine->World->Prop
section
variable {B Sb:Type} (C:EU B Sb)
def jU.deaf:jU->Nat
 | .MP| .Lu| .MQ| .w1 _| .w2 _| .Vi| .w3| .w4| .ke=>1
 |_=>0
def jU.kind:jU->Kind
 | .P8| .kd=>.disable
 | .MP| .w1 _| .w2 _| .w4=>.atomic
 | .Lu| .Vi=>.said
 | .MQ| .ke=>.enable
 | .w3=>.sem
 | .aq=>.join
 | .ET| .fin=>.disable
def ru.deaf:ru->Nat
 | .wr| .k1=>0
 |_=>1
def ru.zF:ru->Bool
 | .qt=>true
 |_=>false
def ru.kind:ru->Kind
 | .wr=>.done
 | .k1=>.disable
 | .d4=>.sem
 |_=>.atomic
def eP (j:Nat):jU:=if j<C.N then .P8 else .kd
def EU.Zs (j:Nat):eG:={ ro:=C.ro,sy:= λb=>C.syn b∨C.pt b,cl:= λb i=>∃k,j<=k∧k<C.N∧C.cl k b i }
def EU.Zw (k:Nat):eG:={ ro:=C.ro,sy:= λb=>C.syn b∨C.pt b,cl:=C.cl k }
def EU.Zp:eG:={ ro:=C.ro,sy:=C.syn,cl:= λ_ _=>False,mute:=True }
inductive Dx:jU->Nat->tu Sb->jU->tu Sb->Prop
 |P8 {j s}:Dx .P8 j s .MP s
 |MP {j s}:Dx .MP j s (if s.v=0 then .Lu else .MQ) { s with v:=s.v+1 }
 |Lu {j s}:Dx .Lu j s .MQ s
 |MQ {j s}:Dx .MQ j s .ET s
 |kd {j s}:Dx .kd j s (.w1 j) s
 |w1 {b j s}:Dx (.w1 b) j s (if s.v=0 then .ke else .w2 s.v) s
 |XR {j s v} (h:s.v=v):Dx (.w2 v) j s .Vi { s with wt:=1 }
 |Tx {j s v} (h:s.v≠v):Dx (.w2 v) j s (.w1 (v - 1)) s
 |Vi {j s}:Dx .Vi j s .w3 s
 |w3 {j s}:Dx .w3 j s .w4 { s with sm:=s.sm - 1 }
 |w4 {j s}:Dx .w4 j s .ke s
 |ke {j s}:Dx .ke j s .aq s
 |aq {j s}:Dx .aq j s .fin { s with jn:=true }
def P9 (f:Nat->Bool) (k:Nat):Nat->Bool:= λl=>if l=k then true else f l
inductive Ty (k:Nat):ru->tu Sb->ru->tu Sb->Prop
 |wr {s}:Ty k .wr s .k1 { s with dn:=P9 s.dn k }
 |k1 {s}:Ty k .k1 s .d1 s
 |d1 {s}:Ty k .d1 s (if s.v=1∧s.wt=1 then .d2 else .qt) { s with v:=s.v - 1 }
 |d2 {s}:Ty k .d2 s .d3 s
 |d3 {s}:Ty k .d3 s .d4 { s with wt:=0 }
 |d4 {s}:Ty k .d4 s .qt { s with sm:=s.sm+1 }
inductive Qa:Nat->FT B->tu Sb->FT B->tu Sb->Prop
 |st {i pc j s pc' s'} (h:Dx pc j s pc' s'):Qa i (.st pc j) s (.st pc' j) s'
 |bd {i k b s b' sb'} (h:C.body.mv k b s.b (some b') sb'):Qa i (.bd k b) s (.bd k b') { s with b:=sb' }
 |yV {i k b s sb'} (h:C.body.mv k b s.b none sb'):Qa i (.bd k b) s (.wg k .wr) { s with b:=sb' }
 |wg {i k pc s pc' s'} (h:Ty k pc s pc' s'):Qa i (.wg k pc) s (.wg k pc') s'
inductive FSp:FT B->tu Sb->FT B->FT B->tu Sb->Prop
 |bd {j s b} (h:C.body.init j (some b)):FSp (.st .ET j) s (.st (eP C (j+1)) (j+1)) (.bd j b) s
 |wg {j s} (h:C.body.init j none):FSp (.st .ET j) s (.st (eP C (j+1)) (j+1)) (.wg j .wr) s
def GQ:FT B->tu Sb->Prop
 | .st pc _,s=>match pc with
   | .MP=>s.v<=C.N∧s.wt=0∧s.sm=0
   | .w1 b=>s.v<=b∧s.v<=C.N∧s.wt=0∧s.sm=0
   | .w2 v=>s.v<=v∧0<v∧s.v<=C.N∧s.wt=0∧s.sm=0
   | .w3=>s.sm<=1∧s.v<=C.N∧s.wt<=1∧(s.sm=1->s.v=0∧s.wt=0)
   | .w4| .ke=>s.v=0∧s.wt=0∧s.sm=0
   | .aq=>(∀k,k<C.N->s.dn k=true)∧C.body.fin s.b∧s.jn=false
   |_=>True
 | .bd k b,s=>C.body.fits k b s.b∧s.jn=false
 | .wg _ pc,s=>match pc with
   | .wr=>s.jn=false
   | .d1=>1<=s.v∧s.v<=C.N∧s.wt<=1∧s.sm=0
   | .d2| .d3=>s.v=0∧s.wt=1∧s.sm=0
   | .d4=>s.v=0∧s.wt=0∧s.sm=0
   |_=>True
def EU.sys:Sys (FT B) (tu Sb) where
 Dk:= λs W=>ConcR.WgAt C.ty C.Wg W ((s.v:Int)*ConcR.KK+s.wt) s.sm∧C.body.rep s.b W
 syn:=C.syn
 dY:= λs=>if s.jn then none else C.body.dY
 mE:= λs=>if s.jn then none else some (ConcR.stA C.Wg)
 mv:=Qa C
 sp:=FSp C
 blk:= λT s=>match T with
  | .st .w3 _=>s.sm=0
  | .bd _ b=>C.body.blk b s.b
  |_=>False
 wakes:= λT=>match T with
  | .bd _ b=>C.body.wakes b
  | .wg _ .d4=>true
  |_=>false
 kind:= λT=>match T with
  | .st pc _=>pc.kind
  | .bd _ b=>C.body.kind b
  | .wg _ pc=>pc.kind
 fork:= λT=>match T with
  | .st .ET _=>true
  |_=>false
 ret:= λT=>match T with
  | .st .fin _=>true
  |_=>false
 quit:= λT=>match T with
  | .wg _ p=>p.zF
  |_=>false
 deaf:= λT=>match T with
  | .st pc _=>pc.deaf
  | .bd _ b=>C.body.deaf b
  | .wg _ pc=>pc.deaf
 past:= λT=>match T with
  | .wg _ .wr=>false
  | .wg _ _=>true
  |_=>false
 Z:= λ_ T=>match T with
  | .st .fin _=>Z0
  | .st _ j=>C.Zs j
  | .bd k _=>C.Zw k
  | .wg k .wr=>C.Zw k
  | .wg _ _=>C.Zp
 J:= λs=>C.body.J s.b
 Dp:= λs D Dc W=>s.jn=true∨C.Dp s.dn D Dc W
 fits:= λ_ T s=>GQ C T s
 Anch:= λ_=>C.Anch
structure lT {B Sb ρ:Type} (b:Body B Sb) (N:Nat) (syn:Nat->Prop) (inv:Nat->(Nat->Option B)->Sb->Prop) (rb:(Nat->Option B)->Sb->ρ) (lt:ρ->ρ->Prop):Prop where
 wf:WellFounded lt
 spawn:∀{j ψ s o},inv j ψ s->j<N->ψ j=none->b.init j o->inv (j+1) (upd ψ j o) s
 move:∀{j ψ s k x o s'},inv j ψ s->k<j->ψ k=some x->¬b.blk x s->b.mv k x s o s'->inv j (upd ψ k o) s'∧(∀y,o=some y->lt (rb (upd ψ k o) s') (rb ψ s))
 fits:∀{j ψ s k x},inv j ψ s->k<j->ψ k=some x->b.fits k x s
 stay:∀{j ψ s k x o s'},inv j ψ s->k<j->ψ k=some x->¬b.blk x s->b.wakes x=false->b.mv k x s o s'->∀l y,l<j->l≠k->ψ l=some y->b.blk y s->b.blk y s'
 kinds:∀x,b.kind x≠ .said∧b.kind x≠ .done∧b.kind x≠ .join
 iJ:∀{j ψ s k x o s'},inv j ψ s->k<j->ψ k=some x->b.mv k x s o s'->Kind.iJ (b.deaf x) (b.kind x)=match o with |some y=>b.deaf y|none=>0
 plain:∀{j ψ s k x o s'},inv j ψ s->k<j->ψ k=some x->b.mv k x s o s'->(b.kind x).plain=true->(b.free s'↔b.free s)∧∀G w,b.J s G w->b.J s' G w
 sU:∀{j ψ s k x o s'},inv j ψ s->k<j->ψ k=some x->b.mv k x s o s'->b.kind x= .sU->b.free s∧¬b.free s'∧b.deaf x=0∧o≠none
 sV:∀{j ψ s k x o s'},inv j ψ s->k<j->ψ k=some x->b.mv k x s o s'->b.kind x= .sV->¬b.free s∧b.deaf x=0∧o≠none
 alive:∀{j ψ s},inv j ψ s->(∃k x,k<j∧ψ k=some x)->∃k x,k<j∧ψ k=some x∧¬b.blk x s
 finish:∀{ψ s},inv N ψ s->(∀k,k<N->ψ k=none)->b.free s∧b.fin s
 GH:∀s w d,b.rep s w->b.rep s (w.at d)
 yw:∀s w w',b.rep s w->(∀b,syn b->xg w.heap[b]? w'.heap[b]?∧∀k,w'.cell? ⟨b,k,none⟩=w.cell? ⟨b,k,none⟩)->b.rep s w'
 xR:∀s G w w',b.J s G w->(∀b,G b->w'.heap[b]?=w.heap[b]?)->b.J s G w'
 Ko:∀j x,b.init j (some x)->b.deaf x=0
structure Bg:Prop where
 big:C.N<2147483647
 wg:C.syn C.Wg
 CV:∀sb w w',C.body.rep sb w->(∀b,b≠C.Wg->w'.heap[b]?=w.heap[b]?)->C.body.rep sb w'
 cl:∀k b i,k<C.N->C.cl k b i->C.pt b
 XT:∀k l b i,C.cl k b i->C.cl l b i->k=l
 Ba:∀dn D Dc w w',C.Dp dn D Dc w->(∀b,D b->w'.heap[b]?=w.heap[b]?)->(∀b i,Dc b i->w'.cell? ⟨b,i,none⟩=w.cell? ⟨b,i,none⟩)->C.Dp dn D Dc w'
end
end Par
end
section
namespace Par
open Go Go.Conc Go.ConcM Go.ConcN
theorem zG {α:Type} {f:α->Nat} {g:Nat->α} {k:Nat} {a:α}:∀{n:Nat},k<n->sm n (λi=>f (upd g k a i))+f (g k)=sm n (λi=>f (g i))+f a
 |0,h=>by omega
 |n+1,h=>by
  show sm n (λi=>f (upd g k a i))+f (upd g k a n)+f (g k)=sm n (λi=>f (g i))+f (g n)+f a
  by_cases e:k=n
  ·subst e
   have :sm k (λi=>f (upd g k a i))=sm k (λi=>f (g i)):=by
    have h1:∀j,j<k->f (upd g k a j)=f (g j):= λj hj=>by rw [upd_ne (by omega)]
    exact Nat.le_antisymm (GK λj hj=>by rw [h1 j hj];exact aj _) (GK λj hj=>by rw [h1 j hj];exact aj _)
   rw [this,upd_same];omega
  ·have :=zG (f:=f) (g:=g) (k:=k) (a:=a) (n:=n) (by omega);rw [upd_ne (Ne.symm e)];omega
theorem xW {f:Nat->Nat} {k:Nat}:∀{n:Nat},k<n->f k<=sm n f
 |0,h=>by omega
 |n+1,h=>by
  show f k<=sm n f+f n
  by_cases e:k=n
  ·subst e;omega
  ·have :=xW (f:=f) (k:=k) (n:=n) (by omega);omega
theorem I1 {f:Nat->Nat} {n:Nat} (h:sm n f=0):∀k,k<n->f k=0:= λk hk=>by
 have :=xW (f:=f) hk;omega
theorem XU {f:Nat->Nat}:∀{n:Nat},0<sm n f->∃k,k<n∧0<f k
 |0,h=>by simp [sm] at h
 |n+1,h=>by
  have h:0<sm n f+f n:=h
  by_cases e:0<f n
  ·exact ⟨n,by omega,e⟩
  ·obtain ⟨k,h1,h2⟩:=XU (f:=f) (n:=n) (by omega);exact ⟨k,by omega,h2⟩
section
variable {B Sb:Type} (C:EU B Sb)
def pre:Option (FT B)->Nat
 |some (.bd _ _)=>1
 |some (.wg _ .wr)=>1
 |some (.wg _ .k1)=>1
 |some (.wg _ .d1)=>1
 |_=>0
def yX:Option (FT B)->Nat
 |some (.wg _ .d2)=>1
 |some (.wg _ .d3)=>1
 |_=>0
def x4:Option (FT B)->Nat
 |some (.wg _ .d4)=>1
 |_=>0
def iU:Option (FT B)->Option B
 |some (.bd _ b)=>some b
 |_=>none
def Kq:Option (FT B)->Bool
 |some (.bd _ _)=>false
 |some (.wg _ .wr)=>false
 |_=>true
def jU.pend:jU->Nat
 | .Lu| .MQ| .ET=>1
 |_=>0
def jU.starts:jU->Bool
 | .P8| .MP| .Lu| .MQ| .ET=>true
 |_=>false
def jU.ends:jU->Bool
 | .w4| .ke| .aq| .fin=>true
 |_=>false
def jU.waits:jU->Bool
 | .Vi| .w3=>true
 |_=>false
structure FI (inv:Nat->(Nat->Option B)->Sb->Prop) (n:Nat) (φ:Nat->Option (FT B)) (s:tu Sb) (pc:jU) (j:Nat) (idx:Nat->Nat) (ws:Nat->Option (FT B)):Prop where
 h0:φ 0=some (.st pc j)
 n0:0<n
 ij:∀k,k<j->0<idx k∧idx k<n
 inj:∀k l,k<j->l<j->idx k=idx l->k=l
 at':∀k,k<j->φ (idx k)=ws k
 who:∀k T,k<j->ws k=some T->(∃b,T= .bd k b)∨∃p,T= .wg k p∧p≠ .qt
 out:∀i,i≠0->(∀k,k<j->idx k≠i)->φ i=none
 cnt:s.v=sm j (λk=>pre (ws k))+pc.pend
 yY:pc.waits=false->sm j (λk=>yX (ws k))=0∧sm j (λk=>x4 (ws k))=0∧s.wt=0∧s.sm=0
 Kr:pc.waits=true->(0<s.v∧s.wt=1∧s.sm=0∧sm j (λk=>yX (ws k))=0∧sm j (λk=>x4 (ws k))=0)∨(s.v=0∧s.wt=1∧s.sm=0∧sm j (λk=>yX (ws k))=1∧sm j (λk=>x4 (ws k))=0)∨
  (s.v=0∧s.wt=0∧s.sm=0∧sm j (λk=>yX (ws k))=0∧sm j (λk=>x4 (ws k))=1)∨(s.v=0∧s.wt=0∧s.sm=1∧sm j (λk=>yX (ws k))=0∧sm j (λk=>x4 (ws k))=0)
 XV:pc.ends=true->s.v=0
 V5:∀v,pc= .w2 v->0<v∧s.v<=v
 shB:∀v,pc= .w1 v->s.v<=v
 jS:pc.starts=true->j<C.N
 jW:pc.starts=false->j=C.N
 jN:j<=C.N
 dn:∀k,k<j->s.dn k=Kq (ws k)
 dnN:∀k,j<=k->s.dn k=false
 jn:s.jn=true↔pc= .fin
 body:inv j (λk=>if k<j then iU (ws k) else none) s.b
def Kt (inv:Nat->(Nat->Option B)->Sb->Prop) (n:Nat) (φ:Nat->Option (FT B)) (s:tu Sb):Prop:=∃pc j idx ws,FI C inv n φ s pc j idx ws
def jU.rank (N _v j:Nat):jU->Nat
 | .P8=>6*(N - j)+2*N+20
 | .MP=>6*(N - j)+2*N+19
 | .Lu=>6*(N - j)+2*N+18
 | .MQ=>6*(N - j)+2*N+17
 | .ET=>6*(N - j)+2*N+16
 | .kd=>2*N+15
 | .w1 b=>2*b+9
 | .w2 u=>2*u+8
 | .Vi=>6
 | .w3=>5
 | .w4=>4
 | .ke=>3
 | .aq=>2
 | .fin=>1
def tC:Option (FT B)->Nat
 |some (.bd _ _)=>7
 |some (.wg _ .wr)=>6
 |some (.wg _ .k1)=>5
 |some (.wg _ .d1)=>4
 |some (.wg _ .d2)=>3
 |some (.wg _ .d3)=>2
 |some (.wg _ .d4)=>1
 |_=>0
variable {C} {inv:Nat->(Nat->Option B)->Sb->Prop} {n:Nat} {φ:Nat->Option (FT B)} {s:tu Sb} {pc:jU} {j:Nat} {idx:Nat->Nat} {ws:Nat->Option (FT B)}
theorem FI.worker (h:FI C inv n φ s pc j idx ws) {i:Nat} {T:FT B} (hi:i≠0) (hφ:φ i=some T):∃k,k<j∧idx k=i∧ws k=some T:=by
 by_cases hk:∃k,k<j∧idx k=i
 ·obtain ⟨k,h1,h2⟩:=hk;exact ⟨k,h1,h2,by rw [<-h.at' k h1,h2];exact hφ⟩
 ·exfalso;have :=h.out i hi λk h1 h2=>hk ⟨k,h1,h2⟩
  rw [this] at hφ;cases hφ
theorem FI.Cj (h:FI C inv n φ s pc j idx ws) {i:Nat} {p:jU} {l:Nat} (hφ:φ i=some (.st p l)):i=0∧p=pc∧l=j:=by
 by_cases hi:i=0
 ·subst hi;rw [h.h0] at hφ;cases hφ;exact ⟨rfl,rfl,rfl⟩
 ·obtain ⟨k,h1,_,h3⟩:=h.worker hi hφ;rcases h.who k _ h1 h3 with ⟨b,e⟩|⟨q,e,_⟩<;>cases e
theorem FI.kr (h:FI C inv n φ s pc j idx ws) {i k:Nat} {b:B} (hφ:φ i=some (.bd k b)):i≠0∧k<j∧idx k=i∧ws k=some (.bd k b):=by
 by_cases hi:i=0
 ·subst hi;rw [h.h0] at hφ;cases hφ
 ·obtain ⟨l,h1,h2,h3⟩:=h.worker hi hφ;rcases h.who l _ h1 h3 with ⟨b',e⟩|⟨q,e,_⟩
  ·cases e;exact ⟨hi,h1,h2,h3⟩
  ·cases e
theorem FI.Qb (h:FI C inv n φ s pc j idx ws) {i k:Nat} {p:ru} (hφ:φ i=some (.wg k p)):i≠0∧k<j∧idx k=i∧ws k=some (.wg k p)∧p≠ .qt:=by
 by_cases hi:i=0
 ·subst hi;rw [h.h0] at hφ;cases hφ
 ·obtain ⟨l,h1,h2,h3⟩:=h.worker hi hφ;rcases h.who l _ h1 h3 with ⟨b',e⟩|⟨q,e,hq⟩
  ·cases e
  ·cases e;exact ⟨hi,h1,h2,h3,hq⟩
theorem FI.st (h:FI C inv n φ s pc j idx ws) {pc':jU} {s':tu Sb} (hb:s'.b=s.b) (hd:s'.dn=s.dn) (cnt:s'.v=sm j (λk=>pre (ws k))+pc'.pend)
 (yY:pc'.waits=false->sm j (λk=>yX (ws k))=0∧sm j (λk=>x4 (ws k))=0∧s'.wt=0∧s'.sm=0)
 (Kr:pc'.waits=true->(0<s'.v∧s'.wt=1∧s'.sm=0∧sm j (λk=>yX (ws k))=0∧sm j (λk=>x4 (ws k))=0)∨(s'.v=0∧s'.wt=1∧s'.sm=0∧sm j (λk=>yX (ws k))=1∧sm j (λk=>x4 (ws k))=0)∨
   (s'.v=0∧s'.wt=0∧s'.sm=0∧sm j (λk=>yX (ws k))=0∧sm j (λk=>x4 (ws k))=1)∨(s'.v=0∧s'.wt=0∧s'.sm=1∧sm j (λk=>yX (ws k))=0∧sm j (λk=>x4 (ws k))=0))
 (XV:pc'.ends=true->s'.v=0) (V5:∀v,pc'= .w2 v->0<v∧s'.v<=v) (shB:∀v,pc'= .w1 v->s'.v<=v) (hst:pc'.starts=pc.starts) (jn:s'.jn=true↔pc'= .fin):FI C inv n (upd φ 0 (some (.st pc' j))) s' pc' j idx ws:=
 ⟨upd_same ..,h.n0,h.ij,h.inj, λk hk=>by rw [upd_ne (by have :=(h.ij k hk).1;omega)];exact h.at' k hk,h.who, λi hi hk=>by rw [upd_ne hi];exact h.out i hi hk,cnt,yY,Kr,XV,V5,shB, λe=>h.jS (hst ▸ e), λe=>h.jW (hst ▸ e),h.jN, λk hk=>by rw [hd];exact h.dn k hk, λk hk=>by rw [hd];exact h.dnN k hk,jn,by rw [hb];exact h.body⟩
theorem FI.xX (h:FI C inv n φ s pc j idx ws) (he:pc.ends=true) {k:Nat} (hk:k<j):ws k=none:=by
 have h0:=h.XV he;have hc:=h.cnt;have hw:pc.waits=false:=by cases pc<;>simp_all [jU.ends,jU.waits]
 obtain ⟨b1,b2,_,_⟩:=h.yY hw;have z1:=I1 (f:= λk=>pre (ws k)) (n:=j) (by omega) k hk;have z2:=I1 b1 k hk;have z3:=I1 b2 k hk;cases hT:ws k with
 |none=>rfl
 |some T=>
  exfalso;simp only [hT] at z1 z2 z3;rcases h.who k T hk hT with ⟨b,rfl⟩|⟨p,rfl,hp⟩
  ·cases z1
  ·cases p<;>simp [pre,yX,x4] at z1 z2 z3;exact hp rfl
theorem FI.Oh (h:FI C inv n φ s pc j idx ws) {k:Nat} (hk:k<j) {T:FT B} (hT:ws k=some T):pc.ends=false:=by
 cases he:pc.ends with
 |false=>rfl
 |true=>rw [h.xX he hk] at hT;cases hT
theorem FI.wk (h:FI C inv n φ s pc j idx ws) (hne:pc.ends=false) {k:Nat} (hk:k<j) {o:Option (FT B)} {s':tu Sb} (ho:∀T,o=some T->(∃b,T= .bd k b)∨∃p,T= .wg k p∧p≠ .qt) (cnt:s'.v+pre (ws k)=s.v+pre o) (hv:s'.v<=s.v)
 (yY:pc.waits=false->yX o=yX (ws k)∧x4 o=x4 (ws k)∧s'.wt=0∧s'.sm=0)
 (Kr:pc.waits=true->∀a b:Nat,a+yX (ws k)=sm j (λk=>yX (ws k))+yX o->b+x4 (ws k)=sm j (λk=>x4 (ws k))+x4 o->
   (0<s'.v∧s'.wt=1∧s'.sm=0∧a=0∧b=0)∨(s'.v=0∧s'.wt=1∧s'.sm=0∧a=1∧b=0)∨(s'.v=0∧s'.wt=0∧s'.sm=0∧a=0∧b=1)∨(s'.v=0∧s'.wt=0∧s'.sm=1∧a=0∧b=0))
 (dnk:s'.dn k=Kq o) (dno:∀l,l≠k->s'.dn l=s.dn l) (hj:s'.jn=s.jn) (hb:inv j (upd (λk=>if k<j then iU (ws k) else none) k (iU o)) s'.b):FI C inv n (upd φ (idx k) o) s' pc j idx (upd ws k o):=by
 have e1:=zG (f:=pre) (g:=ws) (k:=k) (a:=o) hk;have e2:=zG (f:=yX) (g:=ws) (k:=k) (a:=o) hk;have e3:=zG (f:=x4) (g:=ws) (k:=k) (a:=o) hk;refine ⟨by rw [upd_ne (by have :=(h.ij k hk).1;omega)];exact h.h0,h.n0,h.ij,h.inj, λl hl=>?_, λl T hl hT=>?_, λi hi hn=>?_,?_, λhp=>?_, λhp=>?_, λhp=>?_, λv e=>⟨(h.V5 v e).1,aC hv (h.V5 v e).2⟩, λv e=>aC hv (h.shB v e),h.jS,h.jW,h.jN, λl hl=>?_, λl hl=>by rw [dno l (by omega)];exact h.dnN l hl,by rw [hj];exact h.jn,?_⟩
 ·by_cases e:l=k
  ·subst e;rw [upd_same,upd_same]
  ·rw [upd_ne e,upd_ne λe'=>e (h.inj l k hl hk e')];exact h.at' l hl
 ·by_cases e:l=k
  ·subst e;rw [upd_same] at hT;exact ho T hT
  ·rw [upd_ne e] at hT;exact h.who l T hl hT
 ·rw [upd_ne λe=>hn k hk e.symm];exact h.out i hi hn
 ·have :=h.cnt;omega
 ·obtain ⟨a1,a2,a3,a4⟩:=yY hp;obtain ⟨b1,b2,_,_⟩:=h.yY hp;exact ⟨by omega,by omega,a3,a4⟩
 ·exact Kr hp _ _ e2 e3
 ·rw [hne] at hp;cases hp
 ·by_cases e:l=k
  ·subst e;rw [upd_same];exact dnk
  ·rw [upd_ne e,dno l e];exact h.dn l hl
 ·have :(λl=>if l<j then iU (upd ws k o l) else none)=upd (λk=>if k<j then iU (ws k) else none) k (iU o):=by
   funext l
   by_cases e:l=k
   ·subst e;rw [upd_same,upd_same,if_pos hk]
   ·rw [upd_ne e,upd_ne e]
  rw [this];exact hb
end
end Par
end
section
namespace Par
open Go Go.Conc Go.ConcM Go.ConcN
section
variable {B Sb ρ:Type} {C:EU B Sb} {inv:Nat->(Nat->Option B)->Sb->Prop} {rb:(Nat->Option B)->Sb->ρ} {lt:ρ->ρ->Prop} {n:Nat} {φ:Nat->Option (FT B)} {s:tu Sb} {pc:jU} {j:Nat} {idx:Nat->Nat} {ws:Nat->Option (FT B)}
open Classical in
noncomputable def Zd (φ:Nat->Option (FT B)) (k:Nat):Option B:=if h:∃b i,φ i=some (.bd k b) then some h.choose else none
theorem FI.Zd (h:FI C inv n φ s pc j idx ws):Zd φ= λk=>if k<j then iU (ws k) else none:=by
 funext k;unfold Par.Zd
 by_cases hx:∃b i,φ i=some (FT.bd k b)
 ·rw [dif_pos hx];obtain ⟨i,hi⟩:=hx.choose_spec;obtain ⟨_,h1,_,h3⟩:=h.kr hi;rw [if_pos h1,h3];rfl
 ·rw [dif_neg hx]
  by_cases hk:k<j
  ·rw [if_pos hk];cases hT:ws k with
   |none=>rfl
   |some T=>
    rcases h.who k T hk hT with ⟨b,rfl⟩|⟨p,rfl,_⟩
    ·exact absurd ⟨b,idx k,by rw [h.at' k hk,hT]⟩ hx
    ·rfl
  ·rw [if_neg hk]
abbrev Fr (ρ:Type):=Nat×Nat×ρ
def Ze (N:Nat) (s:tu Sb):Option (FT B)->Nat
 |some (.st pc j)=>pc.rank N s.v j
 |_=>0
noncomputable def Tz (C:EU B Sb) (rb:(Nat->Option B)->Sb->ρ) (n:Nat) (φ:Nat->Option (FT B)) (s:tu Sb):Fr ρ:=(Ze C.N s (φ 0),sm n (λi=>tC (φ i)),rb (Par.Zd φ) s.b)
def FL (lt:ρ->ρ->Prop):Fr ρ->Fr ρ->Prop:=Prod.Lex Nat.lt (Prod.Lex Nat.lt lt)
theorem FL.wf (h:WellFounded lt):WellFounded (FL lt):=(Prod.lex Nat.lt_wfRel (Prod.lex Nat.lt_wfRel ⟨_,h⟩)).wf
theorem TA {a b:Nat} {x y:Nat×ρ} (h:a<b):FL lt (a,x) (b,y):=.left _ _ h
theorem XW {a b c d:Nat} {x y:ρ} (h:a<=b) (h2:c<d):FL lt (a,c,x) (b,d,y):=by
 rcases Nat.lt_or_eq_of_le h with h|rfl
 ·exact .left _ _ h
 ·exact .right _ (.left _ _ h2)
theorem ai0 {a c:Nat} {x y:ρ} (h:lt x y):FL lt (a,c,x) (a,c,y):=.right _ (.right _ h)
theorem Qc {pc:jU} {N v v' j:Nat} (h:v'<=v):pc.rank N v' j<=pc.rank N v j:=by
 cases pc<;>simp [jU.rank]
theorem FI.lq (h:FI C inv n φ s pc j idx ws) (hp:pc≠ .fin):s.jn=false:=by
 cases e:s.jn with
 |false=>rfl
 |true=>exact absurd (h.jn.1 e) hp
theorem tF {s:tu Sb} {pc:jU} (h:s.jn=false) (hp:pc≠ .fin):s.jn=true↔pc= .fin:=⟨λe=>absurd (h.symm.trans e) (by simp), λe=>absurd e hp⟩
theorem V6 (h:FI C inv n φ s pc j idx ws) {pc':jU} {s':tu Sb} (hblk:pc= .w3->s.sm≠0) (hm:Dx pc j s pc' s'):FI C inv n (upd φ 0 (some (.st pc' j))) s' pc' j idx ws∧pc'.rank C.N s'.v j<pc.rank C.N s.v j:=by
 have hc:=h.cnt;have hN:=h.jN;cases hm with
 |P8=>
  have hj:=h.lq (by simp);obtain ⟨a1,a2,a3,a4⟩:=h.yY rfl;exact ⟨h.st rfl rfl (by simpa [jU.pend] using hc) (λ_=>⟨a1,a2,a3,a4⟩) (λe=>by cases e) (λe=>by cases e) (λv e=>by cases e) (λv e=>by cases e) rfl (tF hj (by simp)),by simp [jU.rank]⟩
 |MP=>
  have hj:=h.lq (by simp);obtain ⟨a1,a2,a3,a4⟩:=h.yY rfl;split
  ·exact ⟨h.st rfl rfl (by simp [jU.pend] at hc ⊢;omega) (λ_=>⟨a1,a2,a3,a4⟩) (λe=>by cases e) (λe=>by cases e) (λv e=>by cases e) (λv e=>by cases e) rfl (tF hj (by simp)),by simp [jU.rank]⟩
  ·exact ⟨h.st rfl rfl (by simp [jU.pend] at hc ⊢;omega) (λ_=>⟨a1,a2,a3,a4⟩) (λe=>by cases e) (λe=>by cases e) (λv e=>by cases e) (λv e=>by cases e) rfl (tF hj (by simp)),by simp [jU.rank]⟩
 |Lu=>
  have hj:=h.lq (by simp);obtain ⟨a1,a2,a3,a4⟩:=h.yY rfl;exact ⟨h.st rfl rfl (by simpa [jU.pend] using hc) (λ_=>⟨a1,a2,a3,a4⟩) (λe=>by cases e) (λe=>by cases e) (λv e=>by cases e) (λv e=>by cases e) rfl (tF hj (by simp)),by simp [jU.rank]⟩
 |MQ=>
  have hj:=h.lq (by simp);obtain ⟨a1,a2,a3,a4⟩:=h.yY rfl;exact ⟨h.st rfl rfl (by simpa [jU.pend] using hc) (λ_=>⟨a1,a2,a3,a4⟩) (λe=>by cases e) (λe=>by cases e) (λv e=>by cases e) (λv e=>by cases e) rfl (tF hj (by simp)),by simp [jU.rank]⟩
 |kd=>
  have hj:=h.lq (by simp);obtain ⟨a1,a2,a3,a4⟩:=h.yY rfl
  have :sm j (λk=>pre (ws k))<=j:=by
   have :∀(m:Nat) (f:Nat->Nat),(∀k,f k<=1)->sm m f<=m:= λm f hf=>by
    induction m with
    |zero=>exact aj _
    |succ m ih=>
     have :=hf m;show sm m f+f m<=m+1;omega
   exact this j _ λk=>by
    cases ws k with
    |none=>simp [pre]
    |some T=>
     cases T with
     |st _ _=>simp [pre]
     |bd _ _=>simp [pre]
     |wg _ p=>cases p<;>simp [pre]
  refine ⟨h.st rfl rfl (by simpa [jU.pend] using hc) (λ_=>⟨a1,a2,a3,a4⟩) (λe=>by cases e) (λe=>by cases e) (λv e=>by cases e) (λv e=>by cases e;simp [jU.pend] at hc;omega) rfl (tF hj (by simp)),?_⟩;simp [jU.rank,jU.pend] at hc ⊢;omega
 |w1=>
  have hj:=h.lq (by simp);have hB:=h.shB _ rfl;obtain ⟨a1,a2,a3,a4⟩:=h.yY rfl;split
  ·rename_i h0;exact ⟨h.st rfl rfl (by simpa [jU.pend] using hc) (λ_=>⟨a1,a2,a3,a4⟩) (λe=>by cases e) (λ_=>h0) (λv e=>by cases e) (λv e=>by cases e) rfl (tF hj (by simp)),by simp [jU.rank]⟩
  ·rename_i h0;exact ⟨h.st rfl rfl (by simpa [jU.pend] using hc) (λ_=>⟨a1,a2,a3,a4⟩) (λe=>by cases e) (λe=>by cases e) (λv e=>by cases e;exact ⟨by omega,aj _⟩) (λv e=>by cases e) rfl (tF hj (by simp)),by simp [jU.rank];omega⟩
 |XR hv=>
  have hj:=h.lq (by simp);obtain ⟨a1,a2,a3,a4⟩:=h.yY rfl;have h0:=(h.V5 _ rfl).1;exact ⟨h.st rfl rfl (by simpa [jU.pend] using hc) (λe=>by cases e) (λ_=>.inl ⟨by show 0<s.v;omega,rfl,a4,a1,a2⟩) (λe=>by cases e) (λv e=>by cases e) (λv e=>by cases e) rfl (tF hj (by simp)),by simp [jU.rank]⟩
 |Tx hv=>
  have hj:=h.lq (by simp);obtain ⟨a1,a2,a3,a4⟩:=h.yY rfl;refine ⟨h.st rfl rfl (by simpa [jU.pend] using hc) (λ_=>⟨a1,a2,a3,a4⟩) (λe=>by cases e) (λe=>by cases e) (λv e=>by cases e) (λv e=>by cases e;have :=(h.V5 _ rfl).2;omega) rfl (tF hj (by simp)),?_⟩;have :=(h.V5 _ rfl).1;simp [jU.rank];omega
 |Vi=>
  have hj:=h.lq (by simp);exact ⟨h.st rfl rfl (by simpa [jU.pend] using hc) (λe=>by cases e) (λ_=>h.Kr rfl) (λe=>by cases e) (λv e=>by cases e) (λv e=>by cases e) rfl (tF hj (by simp)),by simp [jU.rank]⟩
 |w3=>
  have hj:=h.lq (by simp);have hb:=hblk rfl;rcases h.Kr rfl with x|x|x|⟨x1,x2,x3,x4,x5⟩
  ·omega
  ·omega
  ·omega
  ·exact ⟨h.st rfl rfl (by simpa [jU.pend] using hc) (λ_=>⟨x4,x5,x2,by simp [x3]⟩) (λe=>by cases e) (λ_=>x1) (λv e=>by cases e) (λv e=>by cases e) rfl (tF hj (by simp)),by simp [jU.rank]⟩
 |w4=>
  have hj:=h.lq (by simp);obtain ⟨a1,a2,a3,a4⟩:=h.yY rfl;exact ⟨h.st rfl rfl (by simpa [jU.pend] using hc) (λ_=>⟨a1,a2,a3,a4⟩) (λe=>by cases e) (λ_=>h.XV rfl) (λv e=>by cases e) (λv e=>by cases e) rfl (tF hj (by simp)),by simp [jU.rank]⟩
 |ke=>
  have hj:=h.lq (by simp);obtain ⟨a1,a2,a3,a4⟩:=h.yY rfl;exact ⟨h.st rfl rfl (by simpa [jU.pend] using hc) (λ_=>⟨a1,a2,a3,a4⟩) (λe=>by cases e) (λ_=>h.XV rfl) (λv e=>by cases e) (λv e=>by cases e) rfl (tF hj (by simp)),by simp [jU.rank]⟩
 |aq=>
  have hj:=h.lq (by simp);obtain ⟨a1,a2,a3,a4⟩:=h.yY rfl;exact ⟨h.st rfl rfl (by simpa [jU.pend] using hc) (λ_=>⟨a1,a2,a3,a4⟩) (λe=>by cases e) (λ_=>h.XV rfl) (λv e=>by cases e) (λv e=>by cases e) rfl ⟨λ_=>rfl, λ_=>rfl⟩,by simp [jU.rank]⟩
end
end Par
end
section
namespace Par
open Go Go.Conc Go.ConcM Go.ConcN
section
variable {B Sb ρ:Type} {C:EU B Sb} {inv:Nat->(Nat->Option B)->Sb->Prop} {rb:(Nat->Option B)->Sb->ρ} {lt:ρ->ρ->Prop} {n:Nat} {φ:Nat->Option (FT B)} {s:tu Sb} {pc:jU} {j:Nat} {idx:Nat->Nat} {ws:Nat->Option (FT B)}
def ru.n23:ru->Nat
 | .d2| .d3=>1
 |_=>0
def ru.n4:ru->Nat
 | .d4=>1
 |_=>0
def ru.V7:ru->Nat
 | .wr| .k1| .d1=>1
 |_=>0
theorem wD (k:Nat) (p:ru):yX (some (.wg k p):Option (FT B))=p.n23:=by cases p<;>rfl
theorem Bh (k:Nat) (p:ru):x4 (some (.wg k p):Option (FT B))=p.n4:=by cases p<;>rfl
theorem I4 (k:Nat) (p:ru):pre (some (.wg k p):Option (FT B))=p.V7:=by cases p<;>rfl
theorem tH:yX (none:Option (FT B))=0:=rfl
theorem wE:x4 (none:Option (FT B))=0:=rfl
theorem pre_none:pre (none:Option (FT B))=0:=rfl
theorem FI.EW (h:FI C inv n φ s pc j idx ws) {k:Nat} (hk:k<j) {o:Option (FT B)} (e1:iU (ws k)=none) (e2:iU o=none):inv j (upd (λk=>if k<j then iU (ws k) else none) k (iU o)) s.b:=by
 have :upd (λk=>if k<j then iU (ws k) else none) k (iU o)= λk=>if k<j then iU (ws k) else none:=by
  funext l
  by_cases e:l=k
  ·subst e;rw [upd_same,if_pos hk,e1,e2]
  ·rw [upd_ne e]
 rw [this];exact h.body
theorem V8 (h:FI C inv n φ s pc j idx ws) {k:Nat} (hk:k<j) {p p':ru} (hw:ws k=some (.wg k p)) {s':tu Sb} (hm:Ty k p s p' s'):
 (∃o,o=(if p'.zF then none else some (FT.wg k p'))∧FI C inv n (upd φ (idx k) o) s' pc j idx (upd ws k o)∧tC o<tC (ws k))∧s'.v<=s.v:=by
 have hne:=h.Oh hk hw;have hc:=h.cnt;have p1:=xW (f:= λk=>pre (ws k)) hk;have p2:=xW (f:= λk=>yX (ws k)) hk;have p3:=xW (f:= λk=>x4 (ws k)) hk;simp only [hw,I4,wD,Bh] at p1 p2 p3;have P6:=h.dn k hk;rw [hw] at P6;cases hm with
 |wr=>
  refine ⟨⟨some (.wg k .k1),by simp [ru.zF],h.wk hne hk (λT e=>by cases e;exact .inr ⟨_,rfl,by simp⟩) (by rw [hw];rfl) (aj _) (λe=>?_) (λe a b ea eb=>?_) ?_ (λl hl=>?_) rfl (h.EW hk (by rw [hw];rfl) rfl),by rw [hw];simp [tC]⟩,aj _⟩
  ·obtain ⟨_,_,a3,a4⟩:=h.yY e;rw [hw];exact ⟨rfl,rfl,a3,a4⟩
  ·rw [hw] at ea eb;simp only [wD,Bh,tH,wE,ru.n23,ru.n4,Nat.add_zero] at ea eb;rw [ea,eb];exact h.Kr e
  ·simp [P9,Kq]
  ·simp [P9,hl]
 |k1=>
  refine ⟨⟨some (.wg k .d1),by simp [ru.zF],h.wk hne hk (λT e=>by cases e;exact .inr ⟨_,rfl,by simp⟩) (by rw [hw];rfl) (aj _) (λe=>?_) (λe a b ea eb=>?_) P6 (λl hl=>rfl) rfl (h.EW hk (by rw [hw];rfl) rfl),by rw [hw];simp [tC]⟩,aj _⟩
  ·obtain ⟨_,_,a3,a4⟩:=h.yY e;rw [hw];exact ⟨rfl,rfl,a3,a4⟩
  ·rw [hw] at ea eb;simp only [wD,Bh,tH,wE,ru.n23,ru.n4,Nat.add_zero] at ea eb;rw [ea,eb];exact h.Kr e
 |d1=>
  have p1:1<=sm j (λk=>pre (ws k)):=p1
  by_cases hx:s.v=1∧s.wt=1
  ·rw [if_pos hx];refine ⟨⟨some (.wg k .d2),by simp [ru.zF],h.wk hne hk (λT e=>by cases e;exact .inr ⟨_,rfl,by simp⟩) (by rw [hw];simp only [I4,pre_none,ru.V7];omega) (by simp) (λe=>?_) (λe a b ea eb=>?_) P6 (λl hl=>rfl) rfl (h.EW hk (by rw [hw];rfl) rfl),by rw [hw];simp [tC]⟩,by simp⟩
   ·obtain ⟨_,_,a3,a4⟩:=h.yY e;omega
   ·rw [hw] at ea eb;simp only [wD,Bh,tH,wE,ru.n23,ru.n4,Nat.add_zero] at ea eb
    refine .inr (.inl ?_);rcases h.Kr e with x|x|x|x
    ·exact ⟨by show s.v - 1=0;omega,x.2.1,x.2.2.1,by omega,by omega⟩
    all_goals omega
  ·rw [if_neg hx];refine ⟨⟨none,by simp [ru.zF],h.wk hne hk (λT e=>by cases e) (by rw [hw];simp only [I4,pre_none,ru.V7];omega) (by simp) (λe=>?_) (λe a b ea eb=>?_) P6 (λl hl=>rfl) rfl (h.EW hk (by rw [hw];rfl) rfl),by rw [hw];simp [tC]⟩,by simp⟩
   ·obtain ⟨_,_,a3,a4⟩:=h.yY e;rw [hw];exact ⟨rfl,rfl,a3,a4⟩
   ·rw [hw] at ea eb;simp only [wD,Bh,tH,wE,ru.n23,ru.n4,Nat.add_zero] at ea eb
    refine .inl ?_
    rcases h.Kr e with x|x|x|x
    ·exact ⟨by show 0<s.v - 1;omega,x.2.1,x.2.2.1,by omega,by omega⟩
    all_goals omega
 |d2=>
  refine ⟨⟨some (.wg k .d3),by simp [ru.zF],h.wk hne hk (λT e=>by cases e;exact .inr ⟨_,rfl,by simp⟩) (by rw [hw];rfl) (aj _) (λe=>?_) (λe a b ea eb=>?_) P6 (λl hl=>rfl) rfl (h.EW hk (by rw [hw];rfl) rfl),by rw [hw];simp [tC]⟩,aj _⟩
  ·obtain ⟨_,_,a3,a4⟩:=h.yY e;rw [hw];exact ⟨rfl,rfl,a3,a4⟩
  ·rw [hw] at ea eb;simp only [wD,Bh,tH,wE,ru.n23,ru.n4,Nat.add_zero] at ea eb;rw [Nat.add_right_cancel ea,eb];exact h.Kr e
 |d3=>
  have p2:1<=sm j (λk=>yX (ws k)):=p2;refine ⟨⟨some (.wg k .d4),by simp [ru.zF],h.wk hne hk (λT e=>by cases e;exact .inr ⟨_,rfl,by simp⟩) (by rw [hw];rfl) (aj _) (λe=>?_) (λe a b ea eb=>?_) P6 (λl hl=>rfl) rfl (h.EW hk (by rw [hw];rfl) rfl),by rw [hw];simp [tC]⟩,aj _⟩
  ·obtain ⟨a1,_,a3,a4⟩:=h.yY e;omega
  ·rw [hw] at ea eb;simp only [wD,Bh,tH,wE,ru.n23,ru.n4,Nat.add_zero] at ea eb
   refine .inr (.inr (.inl ?_));rcases h.Kr e with x|x|x|x
   ·omega
   ·exact ⟨x.1,rfl,x.2.2.1,by omega,by omega⟩
   all_goals omega
 |d4=>
  have p3:1<=sm j (λk=>x4 (ws k)):=p3;refine ⟨⟨none,by simp [ru.zF],h.wk hne hk (λT e=>by cases e) (by rw [hw];rfl) (aj _) (λe=>?_) (λe a b ea eb=>?_) P6 (λl hl=>rfl) rfl (h.EW hk (by rw [hw];rfl) rfl),by rw [hw];simp [tC]⟩,aj _⟩
  ·obtain ⟨_,a2,a3,a4⟩:=h.yY e;omega
  ·rw [hw] at ea eb;simp only [wD,Bh,tH,wE,ru.n23,ru.n4,Nat.add_zero] at ea eb
   refine .inr (.inr (.inr ?_));rcases h.Kr e with x|x|x|x
   ·omega
   ·omega
   ·exact ⟨x.1,x.2.1,by show s.sm+1=1;omega,by omega,by omega⟩
   ·omega
theorem Oi {N:Nat} {syn:Nat->Prop} (ok:lT C.body N syn inv rb lt) (h:FI C inv n φ s pc j idx ws) {k:Nat} (hk:k<j) {b:B} (hw:ws k=some (.bd k b)) (hblk:¬C.body.blk b s.b) {o:Option B} {sb':Sb} (hm:C.body.mv k b s.b o sb')
 {T:FT B} (hT:T=match o with |some b'=>.bd k b'|none=>.wg k .wr):FI C inv n (upd φ (idx k) (some T)) { s with b:=sb' } pc j idx (upd ws k (some T))∧(∀b',o=some b'->lt (rb (upd (λk=>if k<j then iU (ws k) else none) k o) sb') (rb (λk=>if k<j then iU (ws k) else none) s.b)):=by
 have hne:=h.Oh hk hw
 have FN:(λk=>if k<j then iU (ws k) else none) k=some b:=by
  show (if k<j then iU (ws k) else none)=some b;rw [if_pos hk,hw];rfl
 obtain ⟨h1,h2⟩:=ok.move h.body hk FN hblk hm;have P6:=h.dn k hk;rw [hw] at P6;have hbp:iU (some T)=o:=by cases o<;>(subst hT;rfl)
 have hpre:pre (some T)=1:=by cases o<;>(subst hT;rfl)
 have hx:yX (some T)=0:=by cases o<;>(subst hT;rfl)
 have hx':x4 (some T)=0:=by cases o<;>(subst hT;rfl)
 have hs:Kq (some T)=false:=by cases o<;>(subst hT;rfl)
 refine ⟨h.wk hne hk (λT' e=>?_) (by rw [hw,hpre];rfl) (aj _) (λe=>?_) (λe a c ea eb=>?_) (by rw [hs];exact P6) (λl hl=>rfl) rfl (by rw [hbp];exact h1),h2⟩
 ·cases e;cases o
  ·exact .inr ⟨.wr,hT,by simp⟩
  ·exact .inl ⟨_,hT⟩
 ·obtain ⟨_,_,a3,a4⟩:=h.yY e;rw [hw,hx,hx'];exact ⟨rfl,rfl,a3,a4⟩
 ·rw [hw,hx] at ea;rw [hw,hx'] at eb;simp only [show yX (some (FT.bd k b))=0 from rfl,show x4 (some (FT.bd k b))=0 from rfl,Nat.add_zero] at ea eb;rw [ea,eb];exact h.Kr e
theorem Oj {N:Nat} {syn:Nat->Prop} (ok:lT C.body N syn inv rb lt) (hN:N=C.N) (h:FI C inv n φ s .ET j idx ws) {o:Option B} (ho:C.body.init j o) {T:FT B} (hT:T=match o with |some b'=>.bd j b'|none=>.wg j .wr):
 FI C inv (n+1) (upd (upd φ 0 (some (.st (eP C (j+1)) (j+1)))) n (some T)) s (eP C (j+1)) (j+1) (upd idx j n) (upd ws j (some T)):=by
 have hjN:j<C.N:=h.jS rfl;have hn0:=h.n0;have hc:=h.cnt;obtain ⟨a1,a2,a3,a4⟩:=h.yY rfl;have hbp:iU (some T)=o:=by cases o<;>(subst hT;rfl)
 have hpre:pre (some T)=1:=by cases o<;>(subst hT;rfl)
 have hx:yX (some T)=0:=by cases o<;>(subst hT;rfl)
 have hx':x4 (some T)=0:=by cases o<;>(subst hT;rfl)
 have hs:Kq (some T)=false:=by cases o<;>(subst hT;rfl)
 have same:∀f:Option (FT B)->Nat,sm j (λk=>f (upd ws j (some T) k))=sm j (λk=>f (ws k)):= λf=>by
  have h1:∀k,k<j->f (upd ws j (some T) k)=f (ws k):= λk hk=>by rw [upd_ne (by omega)]
  exact Nat.le_antisymm (GK λk hk=>by rw [h1 k hk];exact aj _) (GK λk hk=>by rw [h1 k hk];exact aj _)
 have plus:∀f:Option (FT B)->Nat,sm (j+1) (λk=>f (upd ws j (some T) k))=sm j (λk=>f (ws k))+f (some T):= λf=>by
  show sm j (λk=>f (upd ws j (some T) k))+f (upd ws j (some T) j)=_;rw [same,upd_same]
 have hnp:(eP C (j+1)).pend=0∧(eP C (j+1)).waits=false∧(eP C (j+1)).ends=false∧eP C (j+1)≠ .fin∧(∀v,eP C (j+1)≠ .w2 v)∧(∀v,eP C (j+1)≠ .w1 v)∧((eP C (j+1)).starts=true↔j+1<C.N):=by
  unfold eP;split
  ·rename_i h1;exact ⟨rfl,rfl,rfl,by simp,by simp,by simp,⟨λ_=>h1, λ_=>rfl⟩⟩
  ·rename_i h1;exact ⟨rfl,rfl,rfl,by simp,by simp,by simp,⟨λe=>(by cases e), λe=>absurd e h1⟩⟩
 obtain ⟨q1,q2,q3,q4,q5,q7,q6⟩:=hnp;have Zf:∀k,k<j->upd idx j n k=idx k:= λk hk=>upd_ne (by omega)
 refine ⟨by rw [upd_ne (by omega),upd_same],by omega, λk hk=>?_, λk l hk hl e=>?_, λk hk=>?_, λk T' hk hT'=>?_, λi hi hk=>?_,?_, λ_=>⟨by rw [plus,hx];exact a1,by rw [plus,hx'];exact a2,a3,a4⟩,(λe=>by rw [q2] at e;cases e),(λe=>by rw [q3] at e;cases e), λv e=>absurd e (q5 v), λv e=>absurd e (q7 v), λe=>q6.1 e, λe=>?_,by omega, λk hk=>?_, λk hk=>h.dnN k (by omega),tF (h.lq (by simp)) q4,?_⟩
 ·by_cases e:k=j
  ·subst e;rw [upd_same];omega
  ·rw [Zf k (by omega)];have :=h.ij k (by omega);omega
 ·by_cases ek:k=j
  ·by_cases el:l=j
   ·omega
   ·exfalso;subst ek;rw [upd_same,Zf l (by omega)] at e;have :=h.ij l (by omega);omega
  ·by_cases el:l=j
   ·exfalso;subst el;rw [upd_same,Zf k (by omega)] at e;have :=h.ij k (by omega);omega
   ·rw [Zf k (by omega),Zf l (by omega)] at e;exact h.inj k l (by omega) (by omega) e
 ·by_cases e:k=j
  ·subst e;rw [upd_same,upd_same,upd_same]
  ·have :=h.ij k (by omega);rw [Zf k (by omega),upd_ne (by omega),upd_ne (by omega),upd_ne e];exact h.at' k (by omega)
 ·by_cases e:k=j
  ·subst e;rw [upd_same] at hT';cases hT';cases o
   ·exact .inr ⟨.wr,hT,by simp⟩
   ·exact .inl ⟨_,hT⟩
  ·rw [upd_ne e] at hT';exact h.who k T' (by omega) hT'
 ·have hin:i≠n:= λe=>hk j (by omega) (by rw [upd_same];exact e.symm)
  rw [upd_ne hin,upd_ne hi];exact h.out i hi λk hk' e=>hk k (by omega) (by rw [Zf k hk'];exact e)
 ·rw [plus,hpre,q1,hc];simp [jU.pend]
 ·have :¬j+1<C.N:= λx=>by rw [q6.2 x] at e;cases e
  omega
 ·by_cases e:k=j
  ·subst e;rw [upd_same,hs];exact h.dnN k (aj _)
  ·rw [upd_ne e];exact h.dn k (by omega)
 ·have e1:(λk=>if k<j+1 then iU (upd ws j (some T) k) else none)=upd (λk=>if k<j then iU (ws k) else none) j o:=by
   funext k
   by_cases e:k=j
   ·subst e;rw [upd_same,upd_same,if_pos (by omega),hbp]
   ·rw [upd_ne e,upd_ne e]
    by_cases hk:k<j
    ·rw [if_pos (by omega),if_pos hk]
    ·rw [if_neg (by omega),if_neg hk]
  rw [e1];exact ok.spawn h.body (by omega) (if_neg (by omega)) ho
end
end Par
end
section
namespace Par
open Go Go.Conc Go.ConcM Go.ConcN
theorem EX {w w':World} {b:Nat} {c:Array Value} {e:TypeId} {fr:Nat×Nat} (h:w.heap[b]?=some (.cells c e fr)) (hs:xg w.heap[b]? w'.heap[b]?) (hc:∀k,w'.cell? ⟨b,k,none⟩=w.cell? ⟨b,k,none⟩):w'.heap[b]?=some (.cells c e fr):=by
 obtain ⟨c',h1,h2,_⟩:=hs c e fr h;rw [h1];congr 2;apply Array.ext_getElem?;intro i;have :=hc i;unfold World.cell? at this;rw [h,h1] at this;simpa using this
section
variable {B Sb ρ:Type} {C:EU B Sb} {inv:Nat->(Nat->Option B)->Sb->Prop} {rb:(Nat->Option B)->Sb->ρ} {lt:ρ->ρ->Prop} {n:Nat} {φ:Nat->Option (FT B)} {s:tu Sb} {pc:jU} {j:Nat} {idx:Nat->Nat} {ws:Nat->Option (FT B)}
theorem Zg (o:Option (FT B)):pre o<=1:=by
 cases o with
 |none=>simp [pre]
 |some T=>
  cases T with
  |st _ _=>simp [pre]
  |bd _ _=>simp [pre]
  |wg _ p=>cases p<;>simp [pre]
theorem Ku {f:Nat->Nat} (h:∀k,f k<=1):∀m,sm m f<=m
 |0=>aj _
 |m+1=>by
  have h1:=Ku h m;have h2:=h m;show sm m f+f m<=m+1;omega
theorem FI.vle (h:FI C inv n φ s pc j idx ws):s.v<=C.N:=by
 have hc:=h.cnt;have h1:sm j (λk=>pre (ws k))<=j:=Ku (λk=>Zg _) j;have h2:=h.jN
 by_cases hp:pc.pend=0
 ·omega
 ·have :pc.starts=true∧pc.pend=1:=by cases pc<;>simp_all [jU.pend,jU.starts]
  have :=h.jS this.1;omega
def qZ (C:EU B Sb) (s:tu Sb):Prop:=s.jn=false∧C.body.free s.b
theorem FI.fits {syn:Nat->Prop} (ok:lT C.body C.N syn inv rb lt) (h:FI C inv n φ s pc j idx ws) {i:Nat} {T:FT B} (hφ:φ i=some T):GQ C T s:=by
 cases T with
 |st p l=>
  obtain ⟨rfl,rfl,rfl⟩:=h.Cj hφ;have hv:=h.vle;cases p with
  |MP=>obtain ⟨_,_,a3,a4⟩:=h.yY rfl;exact ⟨hv,a3,a4⟩
  |w1 b=>obtain ⟨_,_,a3,a4⟩:=h.yY rfl;exact ⟨h.shB _ rfl,hv,a3,a4⟩
  |w2 v=>obtain ⟨_,_,a3,a4⟩:=h.yY rfl;exact ⟨(h.V5 _ rfl).2,(h.V5 _ rfl).1,hv,a3,a4⟩
  |w3=>
   rcases h.Kr rfl with x|x|x|x
   all_goals exact ⟨by omega,hv,by omega, λe=>⟨by omega,by omega⟩⟩
  |w4=>obtain ⟨_,_,a3,a4⟩:=h.yY rfl;exact ⟨h.XV rfl,a3,a4⟩
  |ke=>obtain ⟨_,_,a3,a4⟩:=h.yY rfl;exact ⟨h.XV rfl,a3,a4⟩
  |aq=>
   have hj:=h.jW rfl;refine ⟨λk hk=>?_,?_,h.lq (by simp)⟩
   ·rw [h.dn k (by omega),h.xX rfl (by omega)];rfl
   ·have hb:=h.body;rw [hj] at hb
    exact (ok.finish hb λk hk=>by
     show (if k<C.N then iU (ws k) else none)=none;rw [if_pos hk,h.xX rfl (by omega)];rfl).2
  |_=>trivial
 |bd k b=>
  obtain ⟨_,hk,_,hw⟩:=h.kr hφ;exact ⟨ok.fits h.body hk (by show (if k<j then iU (ws k) else none)=some b;rw [if_pos hk,hw];rfl),h.lq λe=>by rw [h.xX (by rw [e];rfl) hk] at hw;cases hw⟩
 |wg k p=>
  obtain ⟨_,hk,_,hw,hp⟩:=h.Qb hφ;have hc:=h.cnt;have p1:=xW (f:= λk=>pre (ws k)) hk;have p2:=xW (f:= λk=>yX (ws k)) hk;have p3:=xW (f:= λk=>x4 (ws k)) hk;simp only [hw,I4,wD,Bh] at p1 p2 p3;have hv:=h.vle
  have both:(sm j (λk=>yX (ws k))=0∧sm j (λk=>x4 (ws k))=0∧s.wt=0∧s.sm=0)∨((0<s.v∧s.wt=1∧s.sm=0∧sm j (λk=>yX (ws k))=0∧sm j (λk=>x4 (ws k))=0)∨(s.v=0∧s.wt=1∧s.sm=0∧sm j (λk=>yX (ws k))=1∧sm j (λk=>x4 (ws k))=0)∨
   (s.v=0∧s.wt=0∧s.sm=0∧sm j (λk=>yX (ws k))=0∧sm j (λk=>x4 (ws k))=1)∨(s.v=0∧s.wt=0∧s.sm=1∧sm j (λk=>yX (ws k))=0∧sm j (λk=>x4 (ws k))=0)):=by
   cases e:pc.waits with
   |false=>exact .inl (h.yY e)
   |true=>exact .inr (h.Kr e)
  generalize sm j (λk=>yX (ws k))=X at both p2;generalize sm j (λk=>x4 (ws k))=Y at both p3;generalize sm j (λk=>pre (ws k))=Z at hc p1;cases p<;>simp only [ru.V7,ru.n23,ru.n4] at p1 p2 p3
  case wr=>exact h.lq λe=>by rw [h.xX (by rw [e];rfl) hk] at hw;cases hw
  case d1=>exact ⟨by omega,hv,by omega,by omega⟩
  case d2=>exact ⟨by omega,by omega,by omega⟩
  case d3=>exact ⟨by omega,by omega,by omega⟩
  case d4=>exact ⟨by omega,by omega,by omega⟩
  all_goals trivial
theorem Zh {a a' c c':Nat} {x y:ρ} (e1:a=a') (e2:c=c') (h:lt x y):FL lt (a,c,x) (a',c',y):=by subst e1 e2;exact ai0 h
theorem V9 (h:FI C inv n φ s pc j idx ws) {k:Nat} (hk:k<j) {s':tu Sb} {o:Option (FT B)} (h':FI C inv n (upd φ (idx k) o) s' pc j idx (upd ws k o)):Par.Zd (upd φ (idx k) o)=upd (λk=>if k<j then iU (ws k) else none) k (iU o):=by
 rw [h'.Zd];funext l
 by_cases e:l=k
 ·subst e;rw [upd_same,upd_same,if_pos hk]
 ·rw [upd_ne e,upd_ne e]
theorem Zi {syn:Nat->Prop} (ok:lT C.body C.N syn inv rb lt) (h:Kt C inv n φ s) {i:Nat} {T T':FT B} {s':tu Sb} (hi:i<n) (hφ:φ i=some T) (hblk:¬C.sys.blk T s) (hm:Qa C i T s T' s'):
 Kt C inv n (upd φ i (if C.sys.quit T' then none else some T')) s'∧FL lt (Tz C rb n (upd φ i (if C.sys.quit T' then none else some T')) s') (Tz C rb n φ s):=by
 obtain ⟨pc,j,idx,ws,h⟩:=h;cases hm with
 | @st p l s p' s' hm=>
   obtain ⟨rfl,rfl,rfl⟩:=h.Cj hφ;obtain ⟨h',hr⟩:=V6 h (λe hs=>hblk (by subst e;exact hs)) hm;refine ⟨⟨p',l,idx,ws,h'⟩,?_⟩;unfold Tz;refine TA ?_
   have e:(upd φ 0 (if C.sys.quit (.st p' l)=true then none else some (FT.st p' l))) 0=some (FT.st p' l):=by rw [upd_same];rfl
   rw [e,h.h0];exact hr
 | @bd k b s b' sb' hm=>
   obtain ⟨h0,hk,hx,hw⟩:=h.kr hφ;obtain ⟨h',hr⟩:=Oi ok h hk hw hblk hm (T:=.bd k b') rfl;have hq:(if C.sys.quit (FT.bd k b')=true then none else some (FT.bd k b'))=some (FT.bd k b'):=rfl;rw [hq, <-hx];refine ⟨⟨pc,j,idx,_,h'⟩,?_⟩;unfold Tz;have hx0:(0:Nat)≠idx k:=by rw [hx];exact Ne.symm h0
   refine Zh ?_ ?_ ?_
   ·rw [upd_ne hx0,h.h0];rfl
   ·have :=zG (f:=tC) (g:=φ) (k:=idx k) (a:=some (FT.bd k b')) (n:=n) (by rw [hx];exact hi);rw [hx,hφ] at this;rw [hx];exact Nat.add_right_cancel this
   ·rw [V9 h hk h',h.Zd];exact hr b' rfl
 | @yV k b s sb' hm=>
   obtain ⟨h0,hk,hx,hw⟩:=h.kr hφ;obtain ⟨h',hr⟩:=Oi ok h hk hw hblk hm (T:=.wg k .wr) rfl;have hq:(if C.sys.quit (FT.wg k .wr:FT B)=true then none else some (FT.wg k .wr))=some (FT.wg k .wr:FT B):=rfl;rw [hq, <-hx];refine ⟨⟨pc,j,idx,_,h'⟩,?_⟩;unfold Tz;have hx0:(0:Nat)≠idx k:=by rw [hx];exact Ne.symm h0
   refine XW ?_ ?_
   ·rw [upd_ne hx0,h.h0];exact aj _
   ·have :=zG (f:=tC) (g:=φ) (k:=idx k) (a:=some (FT.wg k .wr)) (n:=n) (by rw [hx];exact hi);rw [hx,hφ] at this;rw [hx];have this:sm n (λi_1=>tC (upd φ i (some (FT.wg k ru.wr)) i_1))+7=sm n (λi=>tC (φ i))+6:=this;omega
 | @wg k p s p' s' hm=>
   obtain ⟨h0,hk,hx,hw,_⟩:=h.Qb hφ;obtain ⟨⟨o,ho,h',hr⟩,hv⟩:=V8 h hk hw hm;have hq:(if C.sys.quit (FT.wg k p')=true then none else some (FT.wg k p'))=o:=ho.symm;rw [hq, <-hx];refine ⟨⟨pc,j,idx,_,h'⟩,?_⟩;unfold Tz;have hx0:(0:Nat)≠idx k:=by rw [hx];exact Ne.symm h0
   refine XW ?_ ?_
   ·rw [upd_ne hx0,h.h0];exact Qc hv
   ·have :=zG (f:=tC) (g:=φ) (k:=idx k) (a:=o) (n:=n) (by rw [hx];exact hi);rw [hx,hφ] at this;rw [hw] at hr;rw [hx];omega
end
end Par
end
section
namespace Par
open Go Go.Conc Go.ConcM Go.ConcN
section
variable {B Sb ρ:Type} {C:EU B Sb} {inv:Nat->(Nat->Option B)->Sb->Prop} {rb:(Nat->Option B)->Sb->ρ} {lt:ρ->ρ->Prop} {n:Nat} {φ:Nat->Option (FT B)} {s:tu Sb} {pc:jU} {j:Nat} {idx:Nat->Nat} {ws:Nat->Option (FT B)}
theorem Wd {syn:Nat->Prop} (ok:lT C.body C.N syn inv rb lt) (h:Kt C inv n φ s) {T T' Tc:FT B} {s':tu Sb} (hφ:φ 0=some T) (hm:FSp C T s T' Tc s'):
 Kt C inv (n+1) (upd (upd φ 0 (some T')) n (some Tc)) s'∧FL lt (Tz C rb (n+1) (upd (upd φ 0 (some T')) n (some Tc)) s') (Tz C rb n φ s):=by
 obtain ⟨pc,j,idx,ws,h⟩:=h;have hn0:=h.n0
 have key:∀{l:Nat},l<C.N->(eP C (l+1)).rank C.N s.v (l+1)<jU.ET.rank C.N s.v l:= λ{l} hl=>by
  unfold eP;split<;>(simp [jU.rank];omega)
 have e0:∀{X:Option (FT B)},upd (upd φ 0 X) n (some Tc) 0=X:= λ{X}=>by rw [upd_ne (by omega),upd_same]
 cases hm with
 | @bd l _ b ho=>
   obtain ⟨_,rfl,rfl⟩:=h.Cj hφ;refine ⟨⟨_,_,_,_,Oj ok rfl h ho (T:=.bd l b) rfl⟩,?_⟩;unfold Tz;refine TA ?_
   rw [e0,h.h0];exact key (h.jS rfl)
 | @wg l _ ho=>
   obtain ⟨_,rfl,rfl⟩:=h.Cj hφ;refine ⟨⟨_,_,_,_,Oj ok rfl h ho (T:=.wg l .wr) rfl⟩,?_⟩;unfold Tz;refine TA ?_
   rw [e0,h.h0];exact key (h.jS rfl)
theorem ai1 (j:Nat):C.sys.Z 0 (.st (eP C j) j)=C.Zs j:=by unfold eP;split<;>rfl
theorem Qd (j:Nat):C.sys.deaf (.st (eP C j) j)=0:=by unfold eP;split<;>rfl
theorem TB (hC:Bg C) {syn:Nat->Prop} (ok:lT C.body C.N syn inv rb lt) (h:Kt C inv n φ s) {T T' Tc:FT B} {s':tu Sb} (hφ:φ 0=some T) (hm:FSp C T s T' Tc s'):
 Same C.sys (qZ C) s s'∧C.sys.mE s≠none∧C.sys.deaf T=0∧C.sys.deaf T'=0∧C.sys.deaf Tc=0∧C.sys.past Tc=false∧C.sys.quit T'=false∧C.sys.quit Tc=false∧
 (∀b,(C.sys.Z 0 T').ro b->(C.sys.Z 0 T).ro b)∧(∀b,(C.sys.Z 0 T').sy b->(C.sys.Z 0 T).sy b)∧(∀b,(C.sys.Z n Tc).ro b->(C.sys.Z 0 T).ro b)∧(∀b,(C.sys.Z n Tc).sy b->(C.sys.Z 0 T).sy b)∧
 (∀b k,(C.sys.Z 0 T').cl b k->(C.sys.Z 0 T').sy b∧(C.sys.Z 0 T).cl b k)∧(∀b k,(C.sys.Z n Tc).cl b k->(C.sys.Z n Tc).sy b∧(C.sys.Z 0 T).cl b k∧¬(C.sys.Z 0 T').cl b k):=by
 obtain ⟨pc,j,idx,ws,h⟩:=h
 have main:∀{l:Nat} {Tc:FT B},l<C.N->s.jn=false->C.sys.deaf Tc=0->C.sys.past Tc=false->C.sys.quit Tc=false->C.sys.Z n Tc=C.Zw l->
  Same C.sys (qZ C) s s∧C.sys.mE s≠none∧C.sys.deaf (.st .ET l)=0∧C.sys.deaf (.st (eP C (l+1)) (l+1))=0∧C.sys.deaf Tc=0∧C.sys.past Tc=false∧C.sys.quit (.st (eP C (l+1)) (l+1))=false∧C.sys.quit Tc=false∧
  (∀b,(C.sys.Z 0 (.st (eP C (l+1)) (l+1))).ro b->(C.sys.Z 0 (.st .ET l)).ro b)∧(∀b,(C.sys.Z 0 (.st (eP C (l+1)) (l+1))).sy b->(C.sys.Z 0 (.st .ET l)).sy b)∧(∀b,(C.sys.Z n Tc).ro b->(C.sys.Z 0 (.st .ET l)).ro b)∧(∀b,(C.sys.Z n Tc).sy b->(C.sys.Z 0 (.st .ET l)).sy b)∧
  (∀b k,(C.sys.Z 0 (.st (eP C (l+1)) (l+1))).cl b k->(C.sys.Z 0 (.st (eP C (l+1)) (l+1))).sy b∧(C.sys.Z 0 (.st .ET l)).cl b k)∧(∀b k,(C.sys.Z n Tc).cl b k->(C.sys.Z n Tc).sy b∧(C.sys.Z 0 (.st .ET l)).cl b k∧¬(C.sys.Z 0 (.st (eP C (l+1)) (l+1))).cl b k):=by
  intro l Tc hl hj d1 d2 d3 d4;refine ⟨⟨rfl,rfl,Iff.rfl, λ_ _ x=>x, λ_ _ _ x=>x⟩,by show (if s.jn then none else some (ConcR.stA C.Wg))≠none;rw [hj];simp,rfl,Qd _,d1,d2,rfl,d3,?_⟩;rw [ai1,d4];refine ⟨λb x=>x, λb x=>x, λb x=>x, λb x=>x, λb i x=>?_, λb i x=>?_⟩
  ·obtain ⟨k,k1,k2,k3⟩:=x;exact ⟨.inr (hC.cl k b i k2 k3),k,by omega,k2,k3⟩
  ·refine ⟨.inr (hC.cl l b i hl x),⟨l,aj _,hl,x⟩, λ⟨k,k1,k2,k3⟩=>?_⟩;have :=hC.XT k l b i k3 x;omega
 cases hm with
 | @bd l _ b ho=>
   obtain ⟨_,rfl,rfl⟩:=h.Cj hφ;exact main (h.jS rfl) (h.lq (by simp)) (ok.Ko _ _ ho) rfl rfl rfl
 | @wg l _ ho=>
   obtain ⟨_,rfl,rfl⟩:=h.Cj hφ;exact main (h.jS rfl) (h.lq (by simp)) rfl rfl rfl rfl
theorem FI.qH (h:FI C inv n φ s pc j idx ws) {k:Nat} {b:B} (hk:k<j) (hw:ws k=some (.bd k b)):(λk=>if k<j then iU (ws k) else none) k=some b:=by
 show (if k<j then iU (ws k) else none)=some b;rw [if_pos hk,hw];rfl
theorem Zj {syn:Nat->Prop} (ok:lT C.body C.N syn inv rb lt) (h:Kt C inv n φ s) {i:Nat} {T T':FT B} {s':tu Sb} (hφ:φ i=some T) (hblk:¬C.sys.blk T s) (hw:C.sys.wakes T=false) (hm:Qa C i T s T' s') {l:Nat} {Tl:FT B} (hl:l≠i) (TC:φ l=some Tl) (hb:C.sys.blk Tl s):C.sys.blk Tl s':=by
 obtain ⟨pc,j,idx,ws,h⟩:=h;cases hm with
 | @st p q s p' s' hm=>
   obtain ⟨rfl,rfl,rfl⟩:=h.Cj hφ;have e:s'.b=s.b:=by cases hm<;>rfl
   cases Tl with
   |st p2 q2=>exact absurd (h.Cj TC).1 hl
   |bd k b=>show C.body.blk b s'.b;rw [e];exact hb
   |wg _ _=>exact hb.elim
 | @bd k b s b' sb' hm=>
   obtain ⟨_,hk,hx,hwk⟩:=h.kr hφ;cases Tl with
   |st p2 q2=>cases p2<;>first |exact hb|exact hb.elim
   |bd k2 b2=>
    obtain ⟨_,hk2,hx2,hw2⟩:=h.kr TC;have hne:k2≠k:= λe=>hl (by rw [<-hx2, <-hx,e])
    exact ok.stay h.body hk (h.qH hk hwk) hblk hw hm k2 b2 hk2 hne (h.qH hk2 hw2) hb
   |wg _ _=>exact hb.elim
 | @yV k b s sb' hm=>
   obtain ⟨_,hk,hx,hwk⟩:=h.kr hφ;cases Tl with
   |st p2 q2=>cases p2<;>first |exact hb|exact hb.elim
   |bd k2 b2=>
    obtain ⟨_,hk2,hx2,hw2⟩:=h.kr TC;have hne:k2≠k:= λe=>hl (by rw [<-hx2, <-hx,e])
    exact ok.stay h.body hk (h.qH hk hwk) hblk hw hm k2 b2 hk2 hne (h.qH hk2 hw2) hb
   |wg _ _=>exact hb.elim
 | @wg k p s p' s' hm=>
   have e:s'.b=s.b:=by cases hm<;>rfl
   cases Tl with
   |st p2 q2=>
    have e2:p≠ .d4->s'.sm=s.sm:= λhp=>by cases hm<;>first |rfl|exact absurd rfl hp
    have hp:p≠ .d4:= λx=>by subst x;cases hw
    cases p2<;>first |exact hb.elim|(show s'.sm=0;rw [e2 hp];exact hb)
   |bd k b=>show C.body.blk b s'.b;rw [e];exact hb
   |wg _ _=>exact hb.elim
theorem We {syn:Nat->Prop} (ok:lT C.body C.N syn inv rb lt) (h:Kt C inv n φ s):∃i T,i<n∧φ i=some T∧¬C.sys.blk T s:=by
 obtain ⟨pc,j,idx,ws,h⟩:=h
 by_cases hwg:∃k p,k<j∧ws k=some (.wg k p)
 ·obtain ⟨k,p,hk,hw⟩:=hwg;exact ⟨idx k,.wg k p,(h.ij k hk).2,by rw [h.at' k hk];exact hw, λx=>x⟩
 by_cases hbd:∃k b,k<j∧ws k=some (.bd k b)
 ·obtain ⟨k,b,hk,hw⟩:=hbd;obtain ⟨k,b,hk,FN,hnb⟩:=ok.alive h.body ⟨k,b,hk,h.qH hk hw⟩;have FN:(if k<j then iU (ws k) else none)=some b:=FN;rw [if_pos hk] at FN
  have hw:ws k=some (.bd k b):=by
   cases hT:ws k with
   |none=>rw [hT] at FN;cases FN
   |some T=>
    rcases h.who k T hk hT with ⟨b',rfl⟩|⟨p,rfl,_⟩
    ·rw [hT] at FN;have :b'=b:=aD FN;rw [this]
    ·rw [hT] at FN;cases FN
  exact ⟨idx k,.bd k b,(h.ij k hk).2,by rw [h.at' k hk];exact hw,hnb⟩
 ·have hno:∀k,k<j->ws k=none:= λk hk=>by
   cases hT:ws k with
   |none=>rfl
   |some T=>
    rcases h.who k T hk hT with ⟨b,rfl⟩|⟨p,rfl,_⟩
    ·exact absurd ⟨k,b,hk,hT⟩ hbd
    ·exact absurd ⟨k,p,hk,hT⟩ hwg
  refine ⟨0,_,h.n0,h.h0, λhb=>?_⟩;cases pc with
  |w3=>
   have hb:s.sm=0:=hb
   have z:∀f:Option (FT B)->Nat,f none=0->sm j (λk=>f (ws k))=0:= λf hf=>by
    apply aM;intro hne;obtain ⟨k,hk,hp⟩:=XU (f:= λk=>f (ws k)) (n:=j) (by omega);rw [hno k hk,hf] at hp;omega
   have hc:=h.cnt;rw [z pre rfl] at hc;have hw:=h.Kr rfl;rw [z yX rfl,z x4 rfl] at hw;simp [jU.pend] at hc;omega
  |_=>exact hb
theorem TD {syn:Nat->Prop} (ok:lT C.body C.N syn inv rb lt) (h:Kt C inv n φ s) {i:Nat} {T T':FT B} {s':tu Sb} (hφ:φ i=some T) (hm:Qa C i T s T' s'):C.sys.deaf T'=Kind.iJ (C.sys.deaf T) (C.sys.kind T):=by
 obtain ⟨pc,j,idx,ws,h⟩:=h;cases hm with
 | @st p q s p' s' hm=>
   show p'.deaf=Kind.iJ p.deaf p.kind;cases hm<;>first |rfl|(split<;>rfl)
 | @bd k b s b' sb' hm=>
   obtain ⟨_,hk,hx,hwk⟩:=h.kr hφ;exact (ok.iJ h.body hk (h.qH hk hwk) hm).symm
 | @yV k b s sb' hm=>
   obtain ⟨_,hk,hx,hwk⟩:=h.kr hφ;exact (ok.iJ h.body hk (h.qH hk hwk) hm).symm
 | @wg k p s p' s' hm=>
   show p'.deaf=Kind.iJ p.deaf p.kind;cases hm<;>first |rfl|(split<;>rfl)
theorem Wh {syn:Nat->Prop} (ok:lT C.body C.N syn inv rb lt) (h:Kt C inv n φ s) {i:Nat} {T T':FT B} {s':tu Sb} (hφ:φ i=some T) (hm:Qa C i T s T' s') (hk:(C.sys.kind T).plain=true):Same C.sys (qZ C) s s'∧C.sys.Z i T'=C.sys.Z i T∧C.sys.past T'=C.sys.past T:=by
 obtain ⟨pc,j,idx,ws,h⟩:=h;cases hm with
 | @st p q s p' s' hm=>
   have hk:p.kind.plain=true:=hk
   have main:∀s':tu Sb,s'.jn=s.jn->s'.b=s.b->s'.dn=s.dn->Same C.sys (qZ C) s s':= λs' e1 e2 e3=>
    ⟨by show (if s'.jn then none else C.body.dY)=_;rw [e1];rfl,by show (if s'.jn then none else some (ConcR.stA C.Wg))=_;rw [e1];rfl,by unfold qZ;rw [e1,e2], λG w x=>by show C.body.J s'.b G w;rw [e2];exact x, λD Dc w x=>by show s'.jn=true∨C.Dp s'.dn D Dc w;rw [e1,e3];exact x⟩
   cases hm<;>first |exact ⟨main _ rfl rfl rfl,rfl,rfl⟩|(split<;>exact ⟨main _ rfl rfl rfl,rfl,rfl⟩)|cases hk
 | @bd k b s b' sb' hm=>
   obtain ⟨_,hkj,hx,hwk⟩:=h.kr hφ;obtain ⟨a1,a2⟩:=ok.plain h.body hkj (h.qH hkj hwk) hm hk;exact ⟨⟨rfl,rfl,by unfold qZ;exact and_congr Iff.rfl a1,a2, λ_ _ _ x=>x⟩,rfl,rfl⟩
 | @yV k b s sb' hm=>
   obtain ⟨_,hkj,hx,hwk⟩:=h.kr hφ;obtain ⟨a1,a2⟩:=ok.plain h.body hkj (h.qH hkj hwk) hm hk;exact ⟨⟨rfl,rfl,by unfold qZ;exact and_congr Iff.rfl a1,a2, λ_ _ _ x=>x⟩,rfl,rfl⟩
 | @wg k p s p' s' hm=>
   have hk:p.kind.plain=true:=hk
   have main:∀s':tu Sb,s'.jn=s.jn->s'.b=s.b->s'.dn=s.dn->Same C.sys (qZ C) s s':= λs' e1 e2 e3=>
    ⟨by show (if s'.jn then none else C.body.dY)=_;rw [e1];rfl,by show (if s'.jn then none else some (ConcR.stA C.Wg))=_;rw [e1];rfl,by unfold qZ;rw [e1,e2], λG w x=>by show C.body.J s'.b G w;rw [e2];exact x, λD Dc w x=>by show s'.jn=true∨C.Dp s'.dn D Dc w;rw [e1,e3];exact x⟩
   cases hm<;>first |exact ⟨main _ rfl rfl rfl,rfl,rfl⟩|(split<;>exact ⟨main _ rfl rfl rfl,rfl,rfl⟩)|cases hk
end
end Par
end
