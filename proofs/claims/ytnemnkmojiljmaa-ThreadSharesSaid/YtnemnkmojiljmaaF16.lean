/- Part 16. -/
import Derived.Conc.JoinWorld
import Derived.Conc.CrowdSpec
import Derived.Test.YtnemnkmojiljmaaF15
set_option maxRecDepth 100000
set_option maxHeartbeats 8000000
set_option linter.all false
section
namespace Par
open Go Go.Conc Go.ConcM Go.ConcN
variable {O:Nat->Prop}
section
variable {T Sh ρ:Type} {P:Program} {S:Sys T Sh} {AI:Nat->(Nat->Option T)->Sh->Prop} {free:Sh->Prop} {rk:Nat->(Nat->Option T)->Sh->ρ} {lt:ρ->ρ->Prop}
theorem Gr.running {main:Bool} {Z:eG} {Stop:(Nat->Prop)->Goroutine->World->Prop} (hst:∀own g W,Stop own g W->g.status= .running) {tr:Tr} {own:Nat->Prop} {g:Goroutine} {W:World} (h:Gr P main Z Stop tr own g W):g.status= .running:=by
 cases tr with
 |leaf=>exact hst _ _ _ (h W (bZ.refl W))
 |node f=>exact h.1
theorem jL {i:Nat} {Tt:T} {own:Nat->Prop} {g:Goroutine} {W:World} (h:At P S i Tt own g W):g.status= .running:=h.law.1
theorem GM {i:Nat} {Tt:T} {own:Nat->Prop} {g:Goroutine} {W:World} (h:At P S i Tt own g W) {s:Sh} (hb:S.blk Tt s):g.offers=none:=h.law.2.1 ⟨s,hb⟩
theorem Oh {Z:eG} {own:Nat->Prop} (w:World) (d:Nat):bZ Z own w (w.at d):=⟨rfl,rfl,OsLater.refl _,aj _, λ_ _=>rfl, λ_ _=>rfl, λ_ _=>xe.refl _, λ_ _ _=>rfl⟩
theorem xP {gs:Array Goroutine} {i j:Nat} {f:Goroutine->Goroutine} {g' gj:Goroutine} (h:((gs.map f).setIfInBounds i g')[j]?=some gj):(j=i∧gj=g'∧i<gs.size)∨(j≠i∧∃g0,gs[j]?=some g0∧gj=f g0):=by
 by_cases e:i=j
 ·subst e;have hlt:=(aa.1 h).1;simp only [Array.size_setIfInBounds,Array.size_map] at hlt;rw [Array.getElem?_setIfInBounds_self_of_lt (by simpa using hlt)] at h;exact .inl ⟨rfl,(aD h).symm,hlt⟩
 ·rw [Array.getElem?_setIfInBounds_ne e,Array.getElem?_map] at h;cases hg:gs[j]? with
  |none=>rw [hg] at h;cases h
  |some g0=>rw [hg] at h;exact .inr ⟨Ne.symm e,g0,rfl,(aD h).symm⟩
theorem GN {w w2:World} {t:Trace} {s:Sh} {γ:Gh} {j:Nat} {gj g g':Goroutine} {AY:TS T} (h:One P S w t s γ j gj AY):One P S w t s γ j (woken P g g' w2 gj) AY:=by
 cases AY with
 |lv k d=>obtain ⟨h1,h2⟩:=h;exact ⟨by rw [woken_quitsD h1];exact h1,h2⟩
 |eZ x=>
  obtain ⟨h1,h2,h3⟩:=h;have hrun:x.g.status= .running:=h2.running λ_ _ _=>jL
  refine ⟨?_,h2,h3⟩;rcases h1 with rfl|⟨hl,hb,rfl⟩
  ·left;unfold woken;split
   ·exact again_running _ (.inl hrun)
   ·rfl
  ·have hoff:x.g.offers=none:=by
    rw [hl] at h2;exact GM (h2 x.W (bZ.refl _)) hb
   unfold woken;split
   ·exact .inl (again_blocked hrun hoff _)
   ·exact .inr ⟨hl,hb,rfl⟩
theorem Tm {Z:eG} {own:Nat->Prop} {es:Array Event} (h:∀e∈es,PI Z own e):∀e∈es,e.loc≠ .mark .disable∧e.loc≠ .mark .enable:=by
 intro e he;have :=(h e he).2;obtain ⟨loc,wr,sy⟩:=e;cases loc with
 |mark m=>
  have hm:m= .noRoom:=this;subst hm;exact ⟨by simp,by simp⟩
 |_=>exact ⟨by simp,by simp⟩
theorem PW {w w':World} {t u:Trace} {s:Sh} {γ:Gh} {i j:Nat} {gj:Goroutine} {AY:TS T} {Z:eG} {own:Nat->Prop} (hj:j≠i) (hu:∀op∈u,op.g=i) (hB:γ.B=w.heap.size) (hR:eU γ w.heap.size i Z own) (hg:uC Z own w w')
 (h:One P S w t s γ j gj AY):One P S w' (t++u) s (grown γ i w'.heap.size) j gj AY:=by
 cases AY with
 |lv k d=>
  obtain ⟨h1,h2,h3,h4⟩:=h;exact ⟨h1,by rw [Deaf_other t (Ne.symm hj) u hu];exact h2,h3,h4⟩
 |eZ x=>
  obtain ⟨h1,h2,h3,h4,h5,h6,h7⟩:=h;have hk:=eU.keep (i:=i) (n':=w'.heap.size) (by rw [hB];exact h7) (by rw [hB];exact hg.size);exact ⟨h1,h2,h3.trans (hR.rely h7 (Ne.symm hj) hg),by rw [Deaf_other t (Ne.symm hj) u hu];exact h4,h5,h6,hk⟩
theorem MI.at {gs:Array Goroutine} {w:World} {t:Trace} {θ:Nat->TS T} {s:Sh} {γ:Gh} {G D:Nat->Prop} {Dc:Nat->Nat->Prop} (ok:sP S AI free rk lt) (h:MI P S AI free O gs w t θ s γ G D Dc) (d:Nat):MI P S AI free O gs (w.at d) t θ s γ G D Dc:=by
 refine ⟨λi g hi=>?_,h.main,h.pos,h.ai,ok.GK s w d h.rep,h.ti,h.B,h.nums,h.syn,h.nomem,h.memo,h.AX,h.jn,h.dZ,h.mo, λhf=>⟨ok.xO s G w (w.at d) (h.lk hf).1 λ_ _=>rfl,(h.lk hf).2⟩,ok.AV s D Dc w (w.at d) h.dn.1 (λ_ _=>rfl) (λ_ _ _=>rfl),h.dn.2⟩;have :=h.one i g hi;cases wE:θ i with
 |lv k d=>rw [wE] at this;exact this
 |eZ x=>
  rw [wE] at this;obtain ⟨h1,h2,h3,h4,h5,h6,h7⟩:=this;exact ⟨h1,h2,h3.trans (Oh w d),h4,h5,h6,h7⟩
theorem xQ {t:Trace} {n i:Nat} (h:∀op∈t,op.g<n) (hi:i<n) (fn:FuncId) (pos:String) (es:Array Event):∀op∈t++MemOp.ofEvents i fn pos es,op.g<n:=by
 intro op hop;rcases Array.mem_append.1 hop with hop|hop
 ·exact h op hop
 ·obtain ⟨e,_,rfl⟩:=mem_ofEvents hop;exact hi
theorem MI.private {gs:Array Goroutine} {w:World} {t:Trace} {θ:Nat->TS T} {s:Sh} {γ:Gh} {G D:Nat->Prop} {Dc:Nat->Nat->Prop} (ok:sP S AI free rk lt) (h:MI P S AI free O gs w t θ s γ G D Dc)
 {i:Nat} {g:Goroutine} (hi:gs[i]?=some g) {x:Tk T} (hx:θ i= .eZ x) {f:World->Tr} (htr:x.tr= .node f):
 ∃g' w' es,stepG P (i==0) g w= .go g' w' es∧MI P S AI free O ((gs.map (woken P g g' w')).setIfInBounds i g') w' (t++MemOp.ofEvents i g.frame.fn g.frame.place es)
  (upd θ i (.eZ { x with own:=grow x.own w w',g:=g',W:=w',tr:=f w })) s (grown γ i w'.heap.size) G D Dc:=by
 have h1:=h.one i g hi;rw [hx] at h1;obtain ⟨hgx,Oi,EO,hDeaf,mP,BX,di⟩:=h1
 have hgx:g=x.g:=by
  rcases hgx with e|⟨e,_⟩
  ·exact e
  ·rw [htr] at e;cases e
 subst hgx;have hlt:=(aa.1 hi).1
 have hact:(i=0∨γ.act i)∨(S.Z i x.Tt).mute:=by
  by_cases h0:i=0
  ·exact .inl (.inl h0)
  ·cases hp:S.past x.Tt with
   |false=>exact .inl (.inr ((BX h0).2 hp))
   |true=>
    have hφ:stops θ i=some x.Tt:=by unfold stops;rw [hx];rfl
    exact .inr ((ok.IX h.ai hlt hφ).1 hp).2.1
 rw [htr] at Oi;obtain ⟨hrun,hstep⟩:=Oi;obtain ⟨g',w',es,hgo,qh,hev,hnext⟩:=hstep w EO;have hu:∀op∈MemOp.ofEvents i x.g.frame.fn x.g.frame.place es,op.g=i:= λop hop=>by obtain ⟨e,_,rfl⟩:=mem_ofEvents hop;rfl
 have hkeep:∀b,b<w.heap.size->¬x.own b->¬(S.Z i x.Tt).sy b->w'.heap[b]?=w.heap[b]?:= λb h1 h2 h3=>qh.rest b h1 h2 h3
 have VT:∀b,γ.who (.obj b)≠ .eZ i->¬x.own b:= λb hb ho=>hb (di.mq ho)
 have Vb:∀b,γ.who (.obj b)≠ .sy->γ.who (.obj b)≠ .pt->¬(S.Z i x.Tt).sy b:= λb hb hb' ho=>(di.sy b ho).2.elim hb hb'
 refine ⟨g',w',es,hgo,⟨λj gj hj=>?_,?_,?_,?_,?_,?_,?_,?_, λb hb=>?_, λl hl=>?_, λl hl=>?_, λk hk=>?_, λhj l hl hns=>?_,h.dZ,h.mo, λhf=>?_,?_⟩⟩
 ·rcases xP hj with ⟨rfl,rfl,_⟩|⟨hne,g0,hg0,rfl⟩
  ·rw [upd_same];exact ⟨.inl rfl,hnext,bZ.refl _,by rw [Deaf_own,deafBehind_still (Tm hev)];exact hDeaf,mP,BX,di.grow h.B qh.size⟩
  ·rw [upd_ne hne];exact PW hne hu h.B di qh (GN (h.one j g0 hg0))
 ·obtain ⟨y,hy⟩:=h.main
  by_cases h0:(0:Nat)=i
  ·subst h0;exact ⟨_,upd_same ..⟩
  ·exact ⟨y,by rw [upd_ne h0];exact hy⟩
 ·simpa using h.pos
 ·have e:stops (upd θ i (.eZ { x with own:=grow x.own w w',g:=g',W:=w',tr:=f w }))=stops θ:=by
   funext j;unfold stops
   by_cases hj:j=i
   ·subst hj;rw [upd_same,hx];rfl
   ·rw [upd_ne hj]
  rw [e];simpa using h.ai
 ·refine ok.ym s w w' h.rep λb hb=>?_
  obtain ⟨h1,h2⟩:=h.syn b (.inl hb);have hw:=h2 (.obj b) trivial rfl
  by_cases hz:(S.Z i x.Tt).sy b
  ·refine ⟨(qh.sy b hz).1, λk=>(qh.sy b hz).2 k λhc=>?_⟩;have :=((di.cl b k hc).2.2 ⟨b,k,none⟩ rfl rfl).symm.trans (h2 (.cell ⟨b,k,none⟩) trivial rfl);cases this
  ·have :=hkeep b h1 (VT b (by rw [hw];simp)) hz;refine ⟨by rw [this];exact xe.refl _, λk=>?_⟩;unfold World.cell?;simp only [this]
 ·exact h.ti.private di h.B qh.size mP hact hev _ _
 ·rfl
 ·simpa using xQ h.nums hlt _ _ _
 ·obtain ⟨h1,h2⟩:=h.syn b hb;exact ⟨ak h1 qh.size, λl hl e=>by rw [iA λ_=>by rw [e,h.B];exact h1];exact h2 l hl e⟩
 ·rw [iA λhm=>absurd hm hl];exact h.nomem l hl
 ·rcases aO (lb l) γ.B with hlt'|hge
  ·rw [iA λ_=>hlt'];exact h.memo l hl
  ·rw [BV hl hge];exact ⟨by simp,by simp⟩
 ·simpa using h.AX k hk
 ·rcases aO (lb l) γ.B with hlt'|hge
  ·rw [iA λ_=>hlt'];exact h.jn hj l hl hns
  ·rw [BV hl hge]
   have h0:i=0:=by
    apply aM;intro h0;have :=ok.joined h.ai hj i hlt h0;unfold stops at this;rw [hx] at this;cases this
   rw [h0]
 ·obtain ⟨h1,h2⟩:=h.lk hf;refine ⟨ok.xO s G w w' h1 λb hb=>?_, λb hb=>⟨ak (h2 b hb).1 qh.size, λl hl e=>?_⟩⟩
  ·have hw:=(h2 b hb).2 (.obj b) trivial rfl;exact hkeep b (h2 b hb).1 (VT b (by rw [hw];simp)) (Vb b (by rw [hw];simp) (by rw [hw];simp))
  ·rw [iA λ_=>by rw [e,h.B];exact (h2 b hb).1];exact (h2 b hb).2 l hl e
 ·obtain ⟨h1,h2,h3⟩:=h.dn;refine ⟨ok.AV s D Dc w w' h1 (λb hb=>?_) (λb k hb=>?_), λb hb=>⟨ak (h2 b hb).1 qh.size, λl hl e=>?_⟩, λb k hb=>⟨ak (h3 b k hb).1 qh.size,?_, λa e1 e2=>?_⟩⟩
  ·have hw:=(h2 b hb).2 (.obj b) trivial rfl;exact hkeep b (h2 b hb).1 (VT b (by rw [hw];simp)) (Vb b (by rw [hw];simp) (by rw [hw];simp))
  ·obtain ⟨g1,g2,g3⟩:=h3 b k hb
   by_cases hz:(S.Z i x.Tt).sy b
   ·refine (qh.sy b hz).2 k λhc=>?_
    have :=((di.cl b k hc).2.2 ⟨b,k,none⟩ rfl rfl).symm.trans (g3 ⟨b,k,none⟩ rfl rfl);cases this
   ·have :=hkeep b g1 (VT b (by rw [g2];simp)) hz;unfold World.cell?;simp only [this]
  ·rw [iA λ_=>by rw [e,h.B];exact (h2 b hb).1];exact (h2 b hb).2 l hl e
  ·rw [iA (l:=.obj b) λ_=>by rw [h.B];exact (h3 b k hb).1];exact (h3 b k hb).2.1
  ·rw [iA (l:=.cell a) λ_=>by rw [h.B];show a.block<_;rw [e1];exact (h3 b k hb).1];exact (h3 b k hb).2.2 a e1 e2
theorem PX {w:World} {t u:Trace} {s:Sh} {γ:Gh} {i j:Nat} {gj:Goroutine} {AY:TS T} (hj:j≠i) (hu:∀op∈u,op.g=i) (h:One P S w t s γ j gj AY):One P S w (t++u) s γ j gj AY:=by
 cases AY with
 |lv k d=>
  obtain ⟨h1,h2,h3,h4⟩:=h;exact ⟨h1,by rw [Deaf_other t (Ne.symm hj) u hu];exact h2,h3,h4⟩
 |eZ x=>
  obtain ⟨h1,h2,h3,h4,h5,h6,h7⟩:=h;exact ⟨h1,h2,h3,by rw [Deaf_other t (Ne.symm hj) u hu];exact h4,h5,h6,h7⟩
theorem AZ {e:Event} (h:e.mute=true) (a:Addr):MemAct.ofEvent e≠ .mark (.release a):=by
 obtain ⟨loc,wr,sy⟩:=e;cases loc<;>simp_all [Event.mute];rename_i m;cases m<;>simp_all [MemAct.ofEvent]
theorem MI.leaver {gs:Array Goroutine} {w:World} {t:Trace} {θ:Nat->TS T} {s:Sh} {γ:Gh} {G D:Nat->Prop} {Dc:Nat->Nat->Prop} (h:MI P S AI free O gs w t θ s γ G D Dc)
 {i:Nat} {g:Goroutine} (hi:gs[i]?=some g) {k d:Nat} (hx:θ i= .lv k d) (hrun:g.status= .running):
 ∃k' d' g' es,k=k'+1∧stepG P (i==0) g w= .go g' w es∧MI P S AI free O ((gs.map (woken P g g' w)).setIfInBounds i g') w (t++MemOp.ofEvents i g.frame.fn g.frame.place es) (upd θ i (.lv k' d')) s γ G D Dc:=by
 have h1:=h.one i g hi;rw [hx] at h1;obtain ⟨hq,hd,h0,hna⟩:=h1;have hlt:=(aa.1 hi).1;have e0:(i==0)=false:=by simpa using h0
 cases k with
 |zero=>rw [hq.1] at hrun;cases hrun
 |succ k=>
  rcases hq with ⟨hq,_⟩|⟨_,g',es,hm,hst,hq⟩
  ·rw [hq] at hrun;cases hrun
  ·have hu:∀op∈MemOp.ofEvents i g.frame.fn g.frame.place es,op.g=i:= λop hop=>by obtain ⟨e,_,rfl⟩:=mem_ofEvents hop;rfl
   refine ⟨k,deafBehind d es,g',es,rfl,by rw [e0];exact hst w,⟨λj gj hj=>?_,?_,by simpa using h.pos,?_,h.rep,?_,h.B,by simpa using xQ h.nums hlt _ _ _,h.syn,h.nomem,h.memo, λk hk=>by simpa using h.AX k hk,h.jn,h.dZ,h.mo,h.lk,h.dn⟩⟩
   ·rcases xP hj with ⟨rfl,rfl,_⟩|⟨hne,g0,hg0,rfl⟩
    ·rw [upd_same];exact ⟨hq,by rw [Deaf_own,hd],h0,hna⟩
    ·rw [upd_ne hne];exact PX hne hu (GN (h.one j g0 hg0))
   ·obtain ⟨y,hy⟩:=h.main;exact ⟨y,by rw [upd_ne (Ne.symm h0)];exact hy⟩
   ·have e:stops (upd θ i (.lv k (deafBehind d es)))=stops θ:=by
     funext j;unfold stops
     by_cases hj:j=i
     ·subst hj;rw [upd_same,hx];rfl
     ·rw [upd_ne hj]
    rw [e];simpa using h.ai
   ·exact h.ti.MN (λop hop=>by obtain ⟨e,he,rfl⟩:=mem_ofEvents hop;exact touch_mute (hm e he)) (λop hop a=>by obtain ⟨e,he,rfl⟩:=mem_ofEvents hop;exact AZ (hm e he) a)
theorem MI.waits {gs:Array Goroutine} {w:World} {t:Trace} {θ:Nat->TS T} {s:Sh} {γ:Gh} {G D:Nat->Prop} {Dc:Nat->Nat->Prop} (h:MI P S AI free O gs w t θ s γ G D Dc)
 {i:Nat} {x:Tk T} (hi:gs[i]?=some x.g) (hx:θ i= .eZ x) (hl:x.tr= .leaf) (hb:S.blk x.Tt s):
 MI P S AI free O (gs.setIfInBounds i { x.g with status:=.blocked }) w t θ s γ G D Dc:=by
 refine ⟨λj gj hj=>?_,h.main,by simpa using h.pos,by simpa using h.ai,h.rep,h.ti,h.B,by simpa using h.nums,h.syn,h.nomem,h.memo, λk hk=>by simpa using h.AX k hk,h.jn,h.dZ,h.mo,h.lk,h.dn⟩;have hj':((gs.map id).setIfInBounds i { x.g with status:=.blocked })[j]?=some gj:=by simpa using hj
 rcases xP hj' with ⟨rfl,rfl,_⟩|⟨hne,g0,hg0,hgj⟩
 ·have h1:=h.one j x.g hi;rw [hx] at h1 ⊢;obtain ⟨_,h2⟩:=h1;exact ⟨.inr ⟨hl,hb,rfl⟩,h2⟩
 ·have :gj=g0:=hgj;rw [this];exact h.one j g0 hg0
end
end Par
end
section
namespace Par
open Go Go.Conc Go.ConcM Go.ConcN
variable {O:Nat->Prop}
theorem EP {t:Trace} {g:Nat}:∀(l:List MemOp),(∀op∈l,op.act≠ .mark .disable∧op.act≠ .mark .enable)->∀m,m<=l.length->(t++(⟨l⟩:Trace)).deaf g (t.size+m)=Deaf t g:=by
 intro l hl m
 induction m with
 |zero=>intro _;exact deaf_old (aj _)
 |succ m ih=>
  intro hm;have hlt:m<l.length:=by omega
  have hget:(t++(⟨l⟩:Trace))[t.size+m]?=some l[m]:=by
   rw [Array.getElem?_append_right (by omega)];simp [hlt]
  rw [<-Nat.add_assoc,deaf_succ hget,ih (by omega)];obtain ⟨h1,h2⟩:=hl l[m] (aI hlt);unfold deafStep;split
  ·rename_i h;exact absurd h h1
  ·rename_i h;exact absurd h h2
  ·rfl
section
variable {T Sh ρ:Type} {P:Program} {S:Sys T Sh} {AI:Nat->(Nat->Option T)->Sh->Prop} {free:Sh->Prop} {rk:Nat->(Nat->Option T)->Sh->ρ} {lt:ρ->ρ->Prop}
theorem PY {γ:Gh} {w w':World} {j:Nat} {Z:eG} {own:Nat->Prop} (yE:∀b,S.syn b->b<w.heap.size∧∀l,dU l->lb l=b->γ.who l= .sy) (h:eU γ w.heap.size j Z own) (hst:cZ S w w'):bZ Z own w w':=by
 refine ⟨hst.tape,hst.out,hst.os,by rw [hst.size];exact aj _, λb hb=>hst.rest b λhs=>?_, λb hb=>hst.rest b λhs=>?_, λb hb=>?_, λb k hb=>?_⟩
 ·have :=((yE b hs).2 (.obj b) trivial rfl).symm.trans (h.mq hb);cases this
 ·have :=((yE b hs).2 (.obj b) trivial rfl).symm.trans (h.Ti hb);cases this
 ·by_cases hs:S.syn b
  ·exact hst.xe b hs
  ·rw [hst.rest b hs];exact xe.refl _
 ·have :¬S.syn b:= λhs=>by
   have :=((yE b hs).2 (.cell ⟨b,k,none⟩) trivial rfl).symm.trans ((h.cl b k hb).2.2 ⟨b,k,none⟩ rfl rfl);cases this
  unfold World.cell?;simp only [hst.rest b this]
theorem eU.size {γ:Gh} {n n':Nat} (e:n'=n) {i:Nat} {Z:eG} {own:Nat->Prop} (h:eU γ n i Z own):eU γ n' i Z own:=e ▸ h
theorem TI.PZ {t:Trace} {γ:Gh} {i:Nat} {w:World} {s:Sh} {k:Kind} {es:Array Event} (h:TI γ t) (hB:γ.B=w.heap.size) (yE:∀b,S.syn b->b<w.heap.size∧∀l,dU l->lb l=b->γ.who l= .sy) (hno:∀l,¬dU l->γ.who l= .fr)
 (hl:γ.live i) (hk:k.plain=true) (he:Q5 S s k es) (hp:(i=0∨γ.act i)∨(k≠ .clock∧(k= .atomic->0<Deaf t i))) (hsaid:k= .said->i=0) (fn:FuncId) (pos:String):TI γ (t++MemOp.ofEvents i fn pos es):=by
 have marks:∀m:Mark,(∀a,m≠ .read a∧m≠ .write a∧m≠ .release a)->es= #[⟨.mark m,false,true⟩]->TI γ (t++MemOp.ofEvents i fn pos es):=by
  intro m hm e;subst e;refine h.MN (λop hop=>?_) (λop hop a=>?_)
  ·obtain ⟨e,he,rfl⟩:=mem_ofEvents hop;simp at he;subst he;have :(MemAct.ofEvent ⟨.mark m,false,true⟩)= .mark m:=rfl;simp only [this];cases m<;>first |rfl|exact absurd rfl (hm _).1|exact absurd rfl (hm _).2.1
  ·obtain ⟨e,he,rfl⟩:=mem_ofEvents hop;simp at he;subst he;intro hx;have hx:MemAct.mark m= .mark (.release a):=hx;cases hx;exact (hm a).2.2 rfl
 have hg:∀op∈MemOp.ofEvents i fn pos es,op.g=i:= λop hop=>by obtain ⟨e,_,rfl⟩:=mem_ofEvents hop;rfl
 cases k with
 |disable=>exact marks .disable (λa=>⟨by simp,by simp,by simp⟩) he
 |enable=>exact marks .enable (λa=>⟨by simp,by simp,by simp⟩) he
 |atomic=>
  have he:∀e∈es,∃a,e.loc= .cell a∧e.sync=true∧S.syn a.block:=he
  have tch:∀op∈MemOp.ofEvents i fn pos es,∃a wr,op.act= .access ⟨.cell a,wr,true⟩∧S.syn a.block:=by
   intro op hop;obtain ⟨e,hem,rfl⟩:=mem_ofEvents hop;obtain ⟨a,h1,h2,h3⟩:=he e hem;obtain ⟨loc,wr,sy⟩:=e;simp only at h1 h2;subst h1 h2;exact ⟨a,wr,by cases wr<;>rfl,h3⟩
  have hrel:∀op∈MemOp.ofEvents i fn pos es,∀a,op.act≠ .mark (.release a):=by
   intro op hop a e;obtain ⟨b,wr,h1,_⟩:=tch op hop;rw [h1] at e;cases e
  rcases hp with hp|⟨_,hp⟩
  ·have :=h.app (B':=γ.B) (aj _) hl hg (λop hop x hx=>?_) hp hrel
   ·exact this
   ·obtain ⟨a,wr,h1,h2⟩:=tch op hop;rw [h1] at hx;have :x=⟨.cell a,wr,.atomic⟩:=(aD hx).symm;subst this;exact ⟨.inr (.inr (.inl ⟨(yE _ h2).2 _ trivial rfl,by simp,by simp⟩)), λ_=>by rw [hB];exact (yE _ h2).1⟩
  ·refine h.Oe hl hg (λop hop x hx=>?_) (λp op hge hop hp' hc=>?_) hrel
   ·obtain ⟨a,wr,h1,h2⟩:=tch op hop;rw [h1] at hx;have :x=⟨.cell a,wr,.atomic⟩:=(aD hx).symm;subst this;exact ⟨(yE _ h2).2 _ trivial rfl,rfl, λ_=>by rw [hB];exact (yE _ h2).1⟩
   ·obtain ⟨a,wr,h1,h2⟩:=tch op hop;obtain ⟨x,hx,_,hor⟩:=hc;have hx':touchAt (t++MemOp.ofEvents i fn pos es) p=some x:=hx;rw [touchAt_of hp',h1] at hx';have :x=⟨.cell a,wr,.atomic⟩:=(aD hx').symm;subst this;rcases hor with hor|⟨g',hg1,hg2⟩
    ·exact hor rfl
    ·have hgi:g'=i:=by
      have :(t++MemOp.ofEvents i fn pos es).g? p=some op.g:=by simp [Trace.g?,hp']
      rw [this] at hg1;exact (aD hg1).symm.trans (hg op hop)
     subst hgi;have hd:=hp rfl;obtain ⟨m,rfl⟩:=Nat.exists_eq_add_of_le hge
     have hm:m<=(MemOp.ofEvents g' fn pos es).toList.length:=by
      have :=lt_size_of_getElem? hp';simp at this ⊢;omega
     have :=EP (t:=t) (g:=g') (MemOp.ofEvents g' fn pos es).toList (λop hop=>?_) m hm
     ·rw [show (⟨(MemOp.ofEvents g' fn pos es).toList⟩:Trace)=MemOp.ofEvents g' fn pos es from rfl,hg2] at this;omega
     ·obtain ⟨a,wr,h1,_⟩:=tch op (by simpa using hop);rw [h1];exact ⟨by simp,by simp⟩
 |clock=>
  have he:∀e∈es,e.loc= .output:=he;rcases hp with hp|⟨hp,_⟩
  ·have :=h.app (B':=γ.B) (aj _) hl hg (λop hop x hx=>?_) hp (λop hop a e=>?_)
   ·exact this
   ·obtain ⟨e,hem,rfl⟩:=mem_ofEvents hop;have :=he e hem;obtain ⟨loc,wr,sy⟩:=e;simp only at this;subst this
    have hx1:x.loc= .output:=by
     have :(MemAct.ofEvent ⟨.output,wr,sy⟩).touch?=some ⟨.output,wr,if sy then .atomic else .plain⟩:=by cases wr<;>cases sy<;>rfl
     rw [this] at hx;rw [<-aD hx]
    exact ⟨.inr (.inr (.inr ⟨by rw [hx1];exact hno _ (λx=>x),by rw [hx1];exact λx=>x⟩)), λhm=>by rw [hx1] at hm;exact hm.elim⟩
   ·obtain ⟨e',hem,rfl⟩:=mem_ofEvents hop;have :=he e' hem;obtain ⟨loc,wr,sy⟩:=e';simp only at this;subst this;cases wr<;>cases sy<;>cases e
  ·exact absurd rfl hp
 |sem=>
  obtain ⟨a,ha,rfl⟩:∃a:Addr,S.syn a.block∧es= #[⟨.mark .disable,false,true⟩,⟨.cell a,false,true⟩,⟨.cell a,true,true⟩,⟨.mark .enable,false,true⟩]:=he
  have e:t++MemOp.ofEvents i fn pos #[⟨.mark .disable,false,true⟩,⟨.cell a,false,true⟩,⟨.cell a,true,true⟩,⟨.mark .enable,false,true⟩]=
   ((t++ #[{ g:=i,fn:=fn,pos:=pos,act:=.mark .disable }])++ #[{ g:=i,fn:=fn,pos:=pos,act:=.access ⟨.cell a,false,true⟩ },{ g:=i,fn:=fn,pos:=pos,act:=.access ⟨.cell a,true,true⟩ }])++ #[{ g:=i,fn:=fn,pos:=pos,act:=.mark .enable }]:=by
   rw [ofEvents_eq];apply Array.ext';simp [MemAct.ofEvent]
  rw [e];have h1:TI γ (t++ #[{ g:=i,fn:=fn,pos:=pos,act:=.mark .disable }]):=h.still rfl (by simp)
  have hd1:Deaf (t++ #[{ g:=i,fn:=fn,pos:=pos,act:=.mark .disable }]) i=Deaf t i+1:=by
   rw [Deaf_push];unfold deafStep;simp
  refine TI.still ?_ rfl (by simp)
  generalize t++ #[{ g:=i,fn:=fn,pos:=pos,act:=.mark .disable }]=t1 at h1 hd1;refine h1.Oe hl (λop hop=>?_) (λop hop x hx=>?_) (λp op hge hop hp' hc=>?_) (λop hop b e=>?_)
  ·have :op= { g:=i,fn:=fn,pos:=pos,act:=.access ⟨.cell a,false,true⟩ }∨op= { g:=i,fn:=fn,pos:=pos,act:=.access ⟨.cell a,true,true⟩ }:=by simpa using hop
   rcases this with rfl|rfl<;>rfl
  ·have :op= { g:=i,fn:=fn,pos:=pos,act:=.access ⟨.cell a,false,true⟩ }∨op= { g:=i,fn:=fn,pos:=pos,act:=.access ⟨.cell a,true,true⟩ }:=by simpa using hop
   rcases this with rfl|rfl
   ·have :x=⟨.cell a,false,.atomic⟩:=(aD hx).symm;subst this;exact ⟨(yE _ ha).2 _ trivial rfl,rfl, λ_=>by rw [hB];exact (yE _ ha).1⟩
   ·have :x=⟨.cell a,true,.atomic⟩:=(aD hx).symm;subst this;exact ⟨(yE _ ha).2 _ trivial rfl,rfl, λ_=>by rw [hB];exact (yE _ ha).1⟩
  ·have two:op= { g:=i,fn:=fn,pos:=pos,act:=.access ⟨.cell a,false,true⟩ }∨op= { g:=i,fn:=fn,pos:=pos,act:=.access ⟨.cell a,true,true⟩ }:=by simpa using hop
   have og:op.g=i:=by rcases two with rfl|rfl<;>rfl
   obtain ⟨x,hx,_,hor⟩:=hc;have hx':touchAt (t1++ #[{ g:=i,fn:=fn,pos:=pos,act:=.access ⟨.cell a,false,true⟩ },{ g:=i,fn:=fn,pos:=pos,act:=.access ⟨.cell a,true,true⟩ }]) p=some x:=hx;rw [touchAt_of hp'] at hx'
   have hxk:x.kind= .atomic:=by
    rcases two with rfl|rfl
    ·rw [<-aD hx'];rfl
    ·rw [<-aD hx'];rfl
   rcases hor with hor|⟨g',hg1,hg2⟩
   ·exact hor hxk
   ·have hgi:g'=i:=by
     have :Trace.g? (t1++ #[{ g:=i,fn:=fn,pos:=pos,act:=.access ⟨.cell a,false,true⟩ },{ g:=i,fn:=fn,pos:=pos,act:=.access ⟨.cell a,true,true⟩ }]) p=some op.g:=by simp [Trace.g?,hp']
     rw [this] at hg1;exact (aD hg1).symm.trans og
    subst hgi;obtain ⟨m,rfl⟩:=Nat.exists_eq_add_of_le hge
    have hm:m<= [({ g:=g',fn:=fn,pos:=pos,act:=.access ⟨.cell a,false,true⟩ }:MemOp),{ g:=g',fn:=fn,pos:=pos,act:=.access ⟨.cell a,true,true⟩ }].length:=by
     have :=lt_size_of_getElem? hp';simp at this ⊢;omega
    have :=EP (t:=t1) (g:=g') [({ g:=g',fn:=fn,pos:=pos,act:=.access ⟨.cell a,false,true⟩ }:MemOp),{ g:=g',fn:=fn,pos:=pos,act:=.access ⟨.cell a,true,true⟩ }] (λop hop=>by simp at hop;rcases hop with rfl|rfl<;>simp) m hm;rw [hg2,hd1] at this;omega
  ·have :op= { g:=i,fn:=fn,pos:=pos,act:=.access ⟨.cell a,false,true⟩ }∨op= { g:=i,fn:=fn,pos:=pos,act:=.access ⟨.cell a,true,true⟩ }:=by simpa using hop
   rcases this with rfl|rfl<;>cases e
 |said=>
  have h0:=hsaid rfl;subst h0;obtain ⟨a,ha,hor⟩:∃a:Addr,S.syn a.block∧(es= #[⟨.mark (.read a),false,true⟩]∨es= #[⟨.mark (.write a),false,true⟩]):=he;have :=h.app (B':=γ.B) (aj _) hl hg (λop hop x hx=>?_) (.inl rfl) (λop hop b e=>?_)
  ·exact this
  ·obtain ⟨e,hem,rfl⟩:=mem_ofEvents hop
   have hx1:x.loc= .cell a∧x.kind= .said:=by
    rcases hor with rfl|rfl<;>simp at hem<;>subst hem
    ·have :x=⟨.cell a,false,.said⟩:=(aD hx).symm;subst this;exact ⟨rfl,rfl⟩
    ·have :x=⟨.cell a,true,.said⟩:=(aD hx).symm;subst this;exact ⟨rfl,rfl⟩
   exact ⟨.inr (.inr (.inl ⟨by rw [hx1.1];exact (yE _ ha).2 _ trivial rfl,by rw [hx1.2];simp, λ_=>rfl⟩)), λ_=>by rw [hx1.1,hB];exact (yE _ ha).1⟩
  ·obtain ⟨e',hem,rfl⟩:=mem_ofEvents hop;rcases hor with rfl|rfl<;>simp at hem<;>subst hem<;>cases e
 |_=>cases hk
theorem jQ {s:Sh} {k:Kind} {es:Array Event} (he:Q5 S s k es) (d:Nat):deafBehind d es=Kind.iI d k:=by
 have one:∀m:Mark,m≠ .disable->m≠ .enable->es= #[⟨.mark m,false,true⟩]->deafBehind d es=d:=by
  intro m h1 h2 e;subst e;exact deafBehind_still (λe he=>by simp at he;subst he;exact ⟨by simpa using h1,by simpa using h2⟩) d
 cases k with
 |atomic=>exact deafBehind_still (λe hem=>by obtain ⟨a,h1,_⟩:=(show ∀e∈es,∃a,e.loc= .cell a∧e.sync=true∧S.syn a.block from he) e hem;rw [h1];exact ⟨by simp,by simp⟩) d
 |clock=>exact deafBehind_still (λe hem=>by have h1:=(show ∀e∈es,e.loc= .output from he) e hem;rw [h1];exact ⟨by simp,by simp⟩) d
 |disable=>have he:es=_:=he;subst he;rfl
 |enable=>have he:es=_:=he;subst he;rfl
 |sem=>obtain ⟨a,_,rfl⟩:=(show ∃a:Addr,S.syn a.block∧es= #[⟨.mark .disable,false,true⟩,⟨.cell a,false,true⟩,⟨.cell a,true,true⟩,⟨.mark .enable,false,true⟩] from he);simp [deafBehind,Kind.iI]
 |said=>
  obtain ⟨a,_,h1|h1⟩:=(show ∃a:Addr,S.syn a.block∧(es= #[⟨.mark (.read a),false,true⟩]∨es= #[⟨.mark (.write a),false,true⟩]) from he)
  ·exact one _ (by simp) (by simp) h1
  ·exact one _ (by simp) (by simp) h1
 |sN=>obtain ⟨a,_,h1⟩:=(show ∃a,S.dZ s=some a∧es= #[⟨.mark (.acquire a),false,true⟩] from he);exact one _ (by simp) (by simp) h1
 |sO=>obtain ⟨a,_,h1⟩:=(show ∃a,S.dZ s=some a∧es= #[⟨.mark (.releaseMerge a),false,true⟩] from he);exact one _ (by simp) (by simp) h1
 |done=>obtain ⟨a,_,h1⟩:=(show ∃a,S.mo s=some a∧es= #[⟨.mark (.releaseMerge a),false,true⟩] from he);exact one _ (by simp) (by simp) h1
 |join=>obtain ⟨a,_,h1⟩:=(show ∃a,S.mo s=some a∧es= #[⟨.mark (.acquire a),false,true⟩] from he);exact one _ (by simp) (by simp) h1
theorem ER {w w2:World} {t:Trace} {s s':Sh} {γ:Gh} {j:Nat} {gj g g':Goroutine} {AY:TS T} (h:One P S w t s γ j gj AY)
 (hb:∀y,AY= .eZ y->S.blk y.Tt s->S.blk y.Tt s'∨(mayWake P g=true∧g'.status≠ .blocked∧g'.status≠ .waiting)):One P S w t s' γ j (woken P g g' w2 gj) AY:=by
 cases AY with
 |lv k d=>obtain ⟨h1,h2⟩:=h;exact ⟨by rw [woken_quitsD h1];exact h1,h2⟩
 |eZ x=>
  obtain ⟨h1,h2,h3⟩:=h;have hrun:x.g.status= .running:=h2.running λ_ _ _=>jL
  refine ⟨?_,h2,h3⟩;rcases h1 with rfl|⟨hl,hbl,rfl⟩
  ·left;unfold woken;split
   ·exact again_running _ (.inl hrun)
   ·rfl
  ·have hoff:x.g.offers=none:=by
    rw [hl] at h2;exact GM (h2 x.W (bZ.refl _)) hbl
   unfold woken;split
   ·exact .inl (again_blocked hrun hoff _)
   ·rename_i hw;rcases hb x rfl hbl with hb|⟨h4,h5,h6⟩
    ·exact .inr ⟨hl,hb,rfl⟩
    ·exfalso;apply hw;simp [h4,h5,h6]
theorem vg {X:jY T} (hst:∀i Tt own g W,X i Tt own g W->g.status= .running) {i:Nat} {Tt:T} {own:Nat->Prop} {g:Goroutine} {W:World} (h:On P S X i Tt own g W):g.status≠ .blocked∧g.status≠ .waiting:=by
 unfold On at h;split at h
 ·obtain ⟨q,hq⟩:=h;rcases hq.status with h|h<;>rw [h]<;>exact ⟨by simp,by simp⟩
 ·obtain ⟨tr,htr⟩:=h.rank;have :=htr.running (hst i Tt);rw [this];exact ⟨by simp,by simp⟩
theorem Kq {w w':World} {t u:Trace} {s0:Sh} {γ:Gh} {i j:Nat} {gj:Goroutine} {AY:TS T} (hj:j≠i) (hu:∀op∈u,op.g=i) (yE:∀b,S.syn b->b<w.heap.size∧∀l,dU l->lb l=b->γ.who l= .sy) (hst:cZ S w w')
 (h:One P S w t s0 γ j gj AY):One P S w' (t++u) s0 γ j gj AY:=by
 cases AY with
 |lv k d=>
  obtain ⟨h1,h2,h3,h4⟩:=h;exact ⟨h1,by rw [Deaf_other t (Ne.symm hj) u hu];exact h2,h3,h4⟩
 |eZ x=>
  obtain ⟨h1,h2,h3,h4,h5,h6,h7⟩:=h;exact ⟨h1,h2,h3.trans (PY yE h7 hst),by rw [Deaf_other t (Ne.symm hj) u hu];exact h4,h5,h6,h7.size hst.size⟩
theorem MI.P5 {gs:Array Goroutine} {w:World} {t:Trace} {θ:Nat->TS T} {s:Sh} {γ:Gh} {G D:Nat->Prop} {Dc:Nat->Nat->Prop} (ok:sP S AI free rk lt) (h:MI P S AI free O gs w t θ s γ G D Dc)
 {i:Nat} {x:Tk T} (hi:gs[i]?=some x.g) (hx:θ i= .eZ x) {T':T} {s':Sh} {g':Goroutine} {w':World} {es:Array Event}
 (hf:S.fork x.Tt=false) (hr:S.ret x.Tt=false) (hb:¬S.blk x.Tt s) (hmv:S.mv i x.Tt s T' s') (hwk:S.wakes x.Tt=true->mayWake P x.g=true) (hrep:S.Db s' w') (hst:cZ S w w') (he:Q5 S s (S.kind x.Tt) es) (hk:(S.kind x.Tt).plain=true)
 (hon:On P S (At P S) i T' x.own g' w'):
 ∃sQ,MI P S AI free O ((gs.map (woken P x.g g' w')).setIfInBounds i g') w' (t++MemOp.ofEvents i x.g.frame.fn x.g.frame.place es) (upd θ i sQ) s' γ G D Dc∧stops (upd θ i sQ)=upd (stops θ) i (if S.quit T' then none else some T'):=by
 have h1:=h.one i x.g hi;rw [hx] at h1;obtain ⟨_,Oi,EO,hDeaf,mP,BX,di⟩:=h1;have hlt:=(aa.1 hi).1;have hφ:stops θ i=some x.Tt:=by unfold stops;rw [hx];rfl
 obtain ⟨hsame,hZ,hpast⟩:=ok.plain h.ai hlt hφ hmv hk;have hdf:=ok.iI h.ai hlt hφ hmv;obtain ⟨hai,_⟩:=ok.move h.ai hlt hφ hf hr hb hmv;obtain ⟨ap5,ap6⟩:=ok.IX h.ai hlt hφ;have hu:∀op∈MemOp.ofEvents i x.g.frame.fn x.g.frame.place es,op.g=i:= λop hop=>by obtain ⟨e,_,rfl⟩:=mem_ofEvents hop;rfl
 have ah1:=vg (λ_ _ _ _ _=>jL) hon
 obtain ⟨sQ,A7⟩:∃sQ:TS T,One P S w' (t++MemOp.ofEvents i x.g.frame.fn x.g.frame.place es) s' γ i g' sQ∧sQ.stop?=(if S.quit T' then none else some T')∧(i=0->∃y,sQ= .eZ y):=by
  have hd:Deaf (t++MemOp.ofEvents i x.g.frame.fn x.g.frame.place es) i=S.deaf T':=by rw [Deaf_own,jQ he,hDeaf,hdf]
  unfold On at hon
  by_cases hq:S.quit T'=true
  ·rw [if_pos hq] at hon;obtain ⟨q,hq'⟩:=hon;obtain ⟨hp,h0⟩:=ok.quits h.ai hlt hφ hmv hq;refine ⟨.lv q (S.deaf T'),⟨hq',hd,h0, λha=>?_⟩,by rw [if_pos hq];rfl, λe=>absurd e h0⟩;have :=(BX h0).1 ha;rw [<-hpast,hp] at this;cases this
  ·rw [if_neg hq] at hon;obtain ⟨tr,htr⟩:=hon.rank;refine ⟨.eZ ⟨T',x.own,g',w',tr⟩,⟨.inl rfl,htr,bZ.refl _,hd,mP, λh0=>by rw [hpast];exact BX h0,?_⟩,by rw [if_neg hq];rfl, λ_=>⟨_,rfl⟩⟩;show eU γ w'.heap.size i (S.Z i T') x.own;rw [hZ];exact di.size hst.size
 have ES:∀b,γ.who (.obj b)≠ .sy->w'.heap[b]?=w.heap[b]?:= λb hb=>hst.rest b λhs=>hb ((h.syn b (.inl hs)).2 (.obj b) trivial rfl)
 refine ⟨sQ,⟨λj gj hj=>?_,?_,by simpa using h.pos,?_,hrep,?_,h.B.trans hst.size.symm,by simpa using xQ h.nums hlt _ _ _, λb hb=>?_,h.nomem,h.memo, λk hk=>by simpa using h.AX k hk, λhj=>h.jn (hsame.mo ▸ hj),h.dZ.trans hsame.dZ.symm,h.mo.trans hsame.mo.symm, λhfr=>?_,?_⟩,?_⟩
 ·rcases xP hj with ⟨rfl,rfl,_⟩|⟨hne,g0,hg0,rfl⟩
  ·rw [upd_same];exact A7.1
  ·rw [upd_ne hne];refine Kq hne hu (λb hb=>h.syn b (.inl hb)) hst (ER (h.one j g0 hg0) λy hy hbl=>?_);cases hw:S.wakes x.Tt with
   |true=>exact .inr ⟨hwk hw,ah1⟩
   |false=>
    have Tn:stops θ j=some y.Tt:=by unfold stops;rw [hy];rfl
    exact .inl (ok.stay h.ai hlt hφ hb hw (.inl hmv) j y.Tt (aa.1 hg0).1 hne Tn hbl)
 ·by_cases h0:(0:Nat)=i
  ·obtain ⟨y,hy⟩:=A7.2.2 h0.symm;exact ⟨y,by rw [h0,upd_same];exact hy⟩
  ·obtain ⟨y,hy⟩:=h.main;exact ⟨y,by rw [upd_ne h0];exact hy⟩
 ·have e:stops (upd θ i sQ)=upd (stops θ) i (if S.quit T' then none else some T'):=by
   funext j;unfold stops
   by_cases hj:j=i
   ·subst hj;rw [upd_same,upd_same];exact A7.2.1
   ·rw [upd_ne hj,upd_ne hj]
  rw [e];simpa using hai
 ·refine h.ti.PZ h.B (λb hb=>h.syn b (.inl hb)) h.nomem mP hk he ?_ ap6 _ _
  by_cases h0:i=0
  ·exact .inl (.inl h0)
  ·cases hp:S.past x.Tt with
   |false=>exact .inl (.inr ((BX h0).2 hp))
   |true=>
    obtain ⟨_,_,h2,h3⟩:=ap5 hp;exact .inr ⟨h2, λe=>by rw [hDeaf];exact h3 e⟩
 ·have :=h.syn b hb;exact ⟨by rw [hst.size];exact this.1,this.2⟩
 ·obtain ⟨h2,h3⟩:=h.lk (hsame.free.1 hfr);refine ⟨ok.xO s' G w w' (hsame.J G w h2) λb hb=>ES b ?_, λb hb=>⟨by rw [hst.size];exact (h3 b hb).1,(h3 b hb).2⟩⟩;rw [(h3 b hb).2 (.obj b) trivial rfl];simp
 ·obtain ⟨h2,h3,h4⟩:=h.dn;refine ⟨ok.AV s' D Dc w w' (hsame.Dp D Dc w h2) (λb hb=>ES b ?_) (λb k hb=>?_), λb hb=>⟨by rw [hst.size];exact (h3 b hb).1,(h3 b hb).2⟩, λb k hb=>⟨by rw [hst.size];exact (h4 b k hb).1,(h4 b k hb).2⟩⟩
  ·rw [(h3 b hb).2 (.obj b) trivial rfl];simp
  ·obtain ⟨g1,g2,g3⟩:=h4 b k hb
   have :¬S.syn b:= λhs=>by
    have :=((h.syn b (.inl hs)).2 (.cell ⟨b,k,none⟩) trivial rfl).symm.trans (g3 ⟨b,k,none⟩ rfl rfl);cases this
   unfold World.cell?;simp only [hst.rest b this]
 ·funext j;unfold stops
  by_cases hj:j=i
  ·subst hj;rw [upd_same,upd_same];exact A7.2.1
  ·rw [upd_ne hj,upd_ne hj]
end
end Par
end
section
namespace Par
open Go Go.Conc Go.ConcM Go.ConcN
variable {O:Nat->Prop}
section
variable {T Sh ρ:Type} {P:Program} {S:Sys T Sh} {AI:Nat->(Nat->Option T)->Sh->Prop} {free:Sh->Prop} {rk:Nat->(Nat->Option T)->Sh->ρ} {lt:ρ->ρ->Prop}
theorem ET {w:World} {t:Trace} {s:Sh} {γ γ':Gh} {j:Nat} {gj:Goroutine} {AY:TS T} (h:One P S w t s γ j gj AY)
 (hr:∀y,AY= .eZ y->eU γ w.heap.size j (S.Z j y.Tt) y.own->eU γ' w.heap.size j (S.Z j y.Tt) y.own) (hl:γ.live j->γ'.live j) (ha:γ'.act j↔γ.act j):One P S w t s γ' j gj AY:=by
 cases AY with
 |lv k d=>obtain ⟨h1,h2,h3,h4⟩:=h;exact ⟨h1,h2,h3, λx=>h4 (ha.1 x)⟩
 |eZ x=>
  obtain ⟨h1,h2,h3,h4,h5,h6,h7⟩:=h;exact ⟨h1,h2,h3,h4,hl h5, λh0=>ha.trans (h6 h0),hr x rfl h7⟩
theorem BZ {θ:Nat->TS T} {i:Nat} {sQ:TS T} {o:Option T} (h:sQ.stop?=o):stops (upd θ i sQ)=upd (stops θ) i o:=by
 funext j;unfold stops
 by_cases hj:j=i
 ·subst hj;rw [upd_same,upd_same];exact h
 ·rw [upd_ne hj,upd_ne hj]
theorem MI.hand {gs:Array Goroutine} {w:World} {t:Trace} {θ:Nat->TS T} {s:Sh} {γ:Gh} {G D:Nat->Prop} {Dc:Nat->Nat->Prop} (ok:sP S AI free rk lt) (h:MI P S AI free O gs w t θ s γ G D Dc)
 {i:Nat} {x:Tk T} (hi:gs[i]?=some x.g) (hx:θ i= .eZ x) {T':T} {s':Sh} {g':Goroutine} {w':World} {es:Array Event} {γ':Gh} {sQ:TS T} {G' D':Nat->Prop} {FQ:Nat->Nat->Prop}
 (hf:S.fork x.Tt=false) (hr:S.ret x.Tt=false) (hb:¬S.blk x.Tt s) (hmv:S.mv i x.Tt s T' s') (hwk:S.wakes x.Tt=true->mayWake P x.g=true) (hrep:S.Db s' w') (hst:cZ S w w')
 (hnb:g'.status≠ .blocked∧g'.status≠ .waiting)
 (hti:TI γ' (t++MemOp.ofEvents i x.g.frame.fn x.g.frame.place es)) (hB:γ'.B=γ.B)
 (A7:One P S w' (t++MemOp.ofEvents i x.g.frame.fn x.g.frame.place es) s' γ' i g' sQ) (hstop:sQ.stop?=if S.quit T' then none else some T') (hmain:i=0->∃y,sQ= .eZ y)
 (Y2:∀j y,j≠i->θ j= .eZ y->j<gs.size->eU γ w.heap.size j (S.Z j y.Tt) y.own->eU γ' w.heap.size j (S.Z j y.Tt) y.own)
 (hlive:∀j,j≠i->γ.live j->γ'.live j) (hact:∀j,j≠i->(γ'.act j↔γ.act j))
 (hsy:∀l,γ.who l= .sy->γ'.who l= .sy) (Y3:∀l,¬dU l->γ'.who l= .fr) (ah2:∀l,dU l->γ'.who l≠ .fr∧(γ'.who l= .sy->S.syn (lb l)∨O (lb l)))
 (hjn:S.mo s'=none->∀l,dU l->¬(S.syn (lb l)∨O (lb l))->γ'.who l= .eZ 0) (hla:γ'.lock=S.dZ s') (hwa:γ'.wg=S.mo s')
 (hlk:free s'->S.J s' G' w'∧∀b,G' b->b<w'.heap.size∧∀l,dU l->lb l=b->γ'.who l= .lk)
 (hdn:S.Dp s' D' FQ w'∧(∀b,D' b->b<w'.heap.size∧∀l,dU l->lb l=b->γ'.who l= .dn)∧∀b k,FQ b k->b<w'.heap.size∧γ'.who (.obj b)= .pt∧∀a:Addr,a.block=b->a.off=k->γ'.who (.cell a)= .dn):
 MI P S AI free O ((gs.map (woken P x.g g' w')).setIfInBounds i g') w' (t++MemOp.ofEvents i x.g.frame.fn x.g.frame.place es) (upd θ i sQ) s' γ' G' D' FQ∧stops (upd θ i sQ)=upd (stops θ) i (if S.quit T' then none else some T'):=by
 have hlt:=(aa.1 hi).1;have hφ:stops θ i=some x.Tt:=by unfold stops;rw [hx];rfl
 obtain ⟨hai,_⟩:=ok.move h.ai hlt hφ hf hr hb hmv;have hu:∀op∈MemOp.ofEvents i x.g.frame.fn x.g.frame.place es,op.g=i:= λop hop=>by obtain ⟨e,_,rfl⟩:=mem_ofEvents hop;rfl
 have hst':=BZ (θ:=θ) (i:=i) hstop;refine ⟨⟨λj gj hj=>?_,?_,by simpa using h.pos,by rw [hst'];simpa using hai,hrep,hti,hB.trans (h.B.trans hst.size.symm),by simpa using xQ h.nums hlt _ _ _, λb hb=>?_,Y3,ah2, λk hk=>?_,hjn,hla,hwa,hlk,hdn⟩,hst'⟩
 ·rcases xP hj with ⟨rfl,rfl,_⟩|⟨hne,g0,hg0,rfl⟩
  ·rw [upd_same];exact A7
  ·rw [upd_ne hne];have hjlt:=(aa.1 hg0).1
   have h1:One P S w t s' γ j (woken P x.g g' w' g0) (θ j):=ER (h.one j g0 hg0) λy hy hbl=>by
    cases hw:S.wakes x.Tt with
    |true=>exact .inr ⟨hwk hw,hnb⟩
    |false=>
     have Tn:stops θ j=some y.Tt:=by unfold stops;rw [hy];rfl
     exact .inl (ok.stay h.ai hlt hφ hb hw (.inl hmv) j y.Tt hjlt hne Tn hbl)
   have h2:=Kq hne hu (λb hb=>h.syn b (.inl hb)) hst h1;exact ET h2 (λy hy hR=>(Y2 j y hne hy hjlt (hR.size hst.size.symm)).size hst.size) (hlive j hne) (hact j hne)
 ·by_cases h0:(0:Nat)=i
  ·obtain ⟨y,hy⟩:=hmain h0.symm;exact ⟨y,by rw [h0,upd_same];exact hy⟩
  ·obtain ⟨y,hy⟩:=h.main;exact ⟨y,by rw [upd_ne h0];exact hy⟩
 ·have :=h.syn b hb;exact ⟨by rw [hst.size];exact this.1, λl hl e=>hsy l (this.2 l hl e)⟩
 ·by_cases hki:k=i
  ·subst hki;simpa using hlt
  ·simpa using h.AX k ((hact k hki).1 hk)
theorem hd1 {i:Nat} {fn:FuncId} {pos:String} {m:Mark}:MemOp.ofEvents i fn pos #[⟨.mark m,false,true⟩]= #[{ g:=i,fn:=fn,pos:=pos,act:=.mark m }]:=by rw [ofEvents_eq];simp [MemAct.ofEvent]
theorem sU {w':World} {t':Trace} {s':Sh} {γ':Gh} {i:Nat} {g':Goroutine} {T':T} {own':Nat->Prop} (hq:S.quit T'=false) (hon:On P S (At P S) i T' own' g' w') (hd:Deaf t' i=S.deaf T') (hl:γ'.live i) (ha:i≠0->(γ'.act i↔S.past T'=false))
 (hR:eU γ' w'.heap.size i (S.Z i T') own'):∃sQ:TS T,One P S w' t' s' γ' i g' sQ∧sQ.stop?=(if S.quit T' then none else some T')∧∃y,sQ= .eZ y:=by
 unfold On at hon;have hnq:¬S.quit T'=true:=by rw [hq];simp
 rw [if_neg hnq] at hon;obtain ⟨tr,htr⟩:=hon.rank;exact ⟨.eZ ⟨T',own',g',w',tr⟩,⟨.inl rfl,htr,bZ.refl _,hd,hl,ha,hR⟩,by rw [if_neg hnq];rfl,_,rfl⟩
theorem eU.turn {γ γ':Gh} {n j:Nat} {Z:eG} {own:Nat->Prop} (k:eU γ n j Z own) (h:∀l,γ'.who l=γ.who l∨(γ.who l≠ .eZ j∧γ.who l≠ .ro∧γ.who l≠ .sy∧γ.who l≠ .pt)):eU γ' n j Z own:=by
 refine ⟨λb hb=>⟨(k.own b hb).1, λl h1 h2=>?_⟩, λb c hb=>⟨(k.cl b c hb).1,?_, λa e1 e2=>?_⟩, λb hb=>⟨(k.ro b hb).1, λl h1 h2=>?_⟩, λb hb=>⟨(k.sy b hb).1,?_⟩⟩
 ·have e:=(k.own b hb).2 l h1 h2;rcases h l with e'|⟨e',_⟩
  ·rw [e'];exact e
  ·exact absurd e e'
 ·have e:=(k.cl b c hb).2.1;rcases h (.obj b) with e'|⟨_,_,_,e'⟩
  ·rw [e'];exact e
  ·exact absurd e e'
 ·have e:=(k.cl b c hb).2.2 a e1 e2;rcases h (.cell a) with e'|⟨e',_⟩
  ·rw [e'];exact e
  ·exact absurd e e'
 ·have e:=(k.ro b hb).2 l h1 h2;rcases h l with e'|⟨_,e',_⟩
  ·rw [e'];exact e
  ·exact absurd e e'
 ·rcases h (.obj b) with e'|⟨_,_,e1,e2⟩
  ·rw [e'];exact (k.sy b hb).2
  ·rcases (k.sy b hb).2 with e|e
   ·exact absurd e e1
   ·exact absurd e e2
theorem MI.ES {gs:Array Goroutine} {w w':World} {t:Trace} {θ:Nat->TS T} {s:Sh} {γ:Gh} {G D:Nat->Prop} {Dc:Nat->Nat->Prop} (h:MI P S AI free O gs w t θ s γ G D Dc) (hst:cZ S w w') {b:Nat} (hb:γ.who (.obj b)≠ .sy):w'.heap[b]?=w.heap[b]?:=
 hst.rest b λhs=>hb ((h.syn b (.inl hs)).2 (.obj b) trivial rfl)
theorem MI.IY {gs:Array Goroutine} {w w':World} {t:Trace} {θ:Nat->TS T} {s s':Sh} {γ γ':Gh} {G D:Nat->Prop} {Dc:Nat->Nat->Prop} (ok:sP S AI free rk lt) (h:MI P S AI free O gs w t θ s γ G D Dc) (hst:cZ S w w')
 (hw:∀l,γ'.who l=γ.who l∨(γ.who l≠ .dn∧γ.who l≠ .pt)) (hD:∀D Dc w,S.Dp s D Dc w->S.Dp s' D Dc w):
 S.Dp s' D Dc w'∧(∀b,D b->b<w'.heap.size∧∀l,dU l->lb l=b->γ'.who l= .dn)∧∀b k,Dc b k->b<w'.heap.size∧γ'.who (.obj b)= .pt∧∀a:Addr,a.block=b->a.off=k->γ'.who (.cell a)= .dn:=by
 obtain ⟨d1,d2,d3⟩:=h.dn;refine ⟨hD D Dc w' (ok.AV s D Dc w w' d1 (λb hb=>h.ES hst (by rw [(d2 b hb).2 (.obj b) trivial rfl];simp)) (λb k hb=>?_)), λb hb=>⟨by rw [hst.size];exact (d2 b hb).1, λl h1 h2=>?_⟩, λb k hb=>⟨by rw [hst.size];exact (d3 b k hb).1,?_, λa e1 e2=>?_⟩⟩
 ·have :=h.ES hst (b:=b) (by rw [(d3 b k hb).2.1];simp);unfold World.cell?;simp only [this]
 ·have e:=(d2 b hb).2 l h1 h2;rcases hw l with e'|⟨e',_⟩
  ·rw [e'];exact e
  ·exact absurd e e'
 ·have e:=(d3 b k hb).2.1;rcases hw (.obj b) with e'|⟨_,e'⟩
  ·rw [e'];exact e
  ·exact absurd e e'
 ·have e:=(d3 b k hb).2.2 a e1 e2;rcases hw (.cell a) with e'|⟨e',_⟩
  ·rw [e'];exact e
  ·exact absurd e e'
theorem MI.VU {gs:Array Goroutine} {w:World} {t:Trace} {θ:Nat->TS T} {s:Sh} {γ:Gh} {G D:Nat->Prop} {Dc:Nat->Nat->Prop} (ok:sP S AI free rk lt) (h:MI P S AI free O gs w t θ s γ G D Dc)
 {i:Nat} {x:Tk T} (hi:gs[i]?=some x.g) (hx:θ i= .eZ x) {T':T} {s':Sh} {g':Goroutine} {w':World} {es:Array Event}
 (hf:S.fork x.Tt=false) (hr:S.ret x.Tt=false) (hb:¬S.blk x.Tt s) (hmv:S.mv i x.Tt s T' s') (hwk:S.wakes x.Tt=true->mayWake P x.g=true) (hrep:S.Db s' w') (hst:cZ S w w') (he:Q5 S s (S.kind x.Tt) es) (hk:S.kind x.Tt= .sN)
 (hon:∀G,(∀b,G b->¬x.own b)->S.J s G w'->On P S (At P S) i T' (λb=>x.own b∨G b) g' w'):
 ∃sQ γ' G',MI P S AI free O ((gs.map (woken P x.g g' w')).setIfInBounds i g') w' (t++MemOp.ofEvents i x.g.frame.fn x.g.frame.place es) (upd θ i sQ) s' γ' G' D Dc∧stops (upd θ i sQ)=upd (stops θ) i (if S.quit T' then none else some T'):=by
 classical
 have h1:=h.one i x.g hi;rw [hx] at h1;obtain ⟨_,Oi,EO,hDeaf,mP,BX,di⟩:=h1;have hlt:=(aa.1 hi).1;have hφ:stops θ i=some x.Tt:=by unfold stops;rw [hx];rfl
 obtain ⟨o1,o2,o3,o4,o5,o6,o7,o8,o9,Tp⟩:=ok.sN h.ai hlt hφ hmv hk;have hdf:=ok.iI h.ai hlt hφ hmv;rw [hk] at hdf he;obtain ⟨a,ha,rfl⟩:∃a,S.dZ s=some a∧es= #[⟨.mark (.acquire a),false,true⟩]:=he;obtain ⟨hJ,hG⟩:=h.lk o1
 have hJ':=ok.xO s G w w' hJ λb hb=>hst.rest b λhs=>by
  have :=((h.syn b (.inl hs)).2 (.obj b) trivial rfl).symm.trans ((hG b hb).2 (.obj b) trivial rfl);cases this
 have hGo:∀b,G b->¬x.own b:= λb hb ho=>by
  have :=(di.mq ho).symm.trans ((hG b hb).2 (.obj b) trivial rfl);cases this
 have hon:=hon G hGo hJ';obtain ⟨who',hwho⟩:∃who':Loc->Who,who'= λl=>if dU l∧G (lb l) then .eZ i else γ.who l:=⟨_,rfl⟩
 have uD:∀l,dU l->G (lb l)->who' l= .eZ i:= λl h1 h2=>by rw [hwho];exact if_pos ⟨h1,h2⟩
 have mD:∀l,¬(dU l∧G (lb l))->who' l=γ.who l:= λl h1=>by rw [hwho];exact if_neg h1
 have wlk:∀l,dU l->G (lb l)->γ.who l= .lk:= λl h1 h2=>(hG _ h2).2 l h1 rfl
 have kZ:∀l,γ.who l≠ .lk->who' l=γ.who l:= λl hl=>mD l λ⟨h1,h2⟩=>hl (wlk l h1 h2)
 have keepR:∀j Z own,eU γ w.heap.size j Z own->eU { γ with who:=who' } w.heap.size j Z own:= λj Z own k=>k.turn λl=>by
  by_cases hl:γ.who l= .lk
  ·exact .inr (by rw [hl];simp)
  ·exact .inl (kZ l hl)
 have hti:=h.ti.acquire (z:={ g:=i,fn:=x.g.frame.fn,pos:=x.g.frame.place,act:=.mark (.acquire a) }) (a:=a) (by rw [h.dZ,ha]) rfl (by rw [hDeaf,o6]) mP (who':=who') (λl=>by
  by_cases hl:dU l∧G (lb l)
  ·exact .inr ⟨wlk l hl.1 hl.2,uD l hl.1 hl.2⟩
  ·exact .inl (mD l hl))
 have Y4:eU { γ with who:=who' } w'.heap.size i (S.Z i T') (λb=>x.own b∨G b):=by
  have :=keepR i _ _ di;rw [o8,hst.size];refine ⟨λb hb=>?_,this.cl,this.ro,this.sy⟩;rcases hb with hb|hb
  ·exact this.own b hb
  ·exact ⟨(hG b hb).1, λl h1 h2=>uD l h1 (by rw [h2];exact hb)⟩
 have hdd:Deaf (t++MemOp.ofEvents i x.g.frame.fn x.g.frame.place #[⟨.mark (.acquire a),false,true⟩]) i=S.deaf T':=by
  rw [Deaf_own,hDeaf,hdf,jQ (S:=S) (s:=s) (k:=.sN) ⟨a,ha,rfl⟩]
 obtain ⟨sQ,A7,hstop,MQ⟩:=sU (s':=s') Tp hon hdd (γ':={ γ with who:=who' }) mP (λh0=>by rw [o9];exact BX h0) Y4
 refine ⟨sQ,{ γ with who:=who' }, λ_=>False,MI.hand ok h hi hx hf hr hb hmv hwk hrep hst (vg (λ_ _ _ _ _=>jL) hon) (by rw [hd1];exact hti) rfl A7 hstop (λ_=>MQ)
  (λj y _ _ _ k=>keepR j _ _ k) (λ_ _ h=>h) (λ_ _=>Iff.rfl) (λl hl=>?_) (λl hl=>?_) (λl hl=>?_) (λhn=>?_) (by rw [o3];exact h.dZ) (by rw [o4];exact h.mo) (λhf'=>absurd hf' o2) ?_⟩
 ·show who' l=_;rw [kZ l (by rw [hl];simp)];exact hl
 ·show who' l=_;rw [mD l λhm=>hl hm.1];exact h.nomem l hl
 ·show who' l≠_∧(who' l=_->_)
  by_cases hg:G (lb l)
  ·rw [uD l hl hg];exact ⟨by simp,by simp⟩
  ·rw [mD l λhm=>hg hm.2];exact h.memo l hl
 ·rw [o4] at hn;exact absurd hn o5
 ·refine h.IY ok hst (λl=>?_) o7
  by_cases hl:γ.who l= .lk
  ·exact .inr (by rw [hl];simp)
  ·exact .inl (kZ l hl)
theorem MI.VV {gs:Array Goroutine} {w:World} {t:Trace} {θ:Nat->TS T} {s:Sh} {γ:Gh} {G D:Nat->Prop} {Dc:Nat->Nat->Prop} (ok:sP S AI free rk lt) (h:MI P S AI free O gs w t θ s γ G D Dc)
 {i:Nat} {x:Tk T} (hi:gs[i]?=some x.g) (hx:θ i= .eZ x) {T':T} {s':Sh} {g':Goroutine} {w':World} {es:Array Event}
 (hf:S.fork x.Tt=false) (hr:S.ret x.Tt=false) (hb:¬S.blk x.Tt s) (hmv:S.mv i x.Tt s T' s') (hwk:S.wakes x.Tt=true->mayWake P x.g=true) (hrep:S.Db s' w') (hst:cZ S w w') (he:Q5 S s (S.kind x.Tt) es) (hk:S.kind x.Tt= .sO)
 (hon:∃G,(∀b,G b->x.own b)∧S.J s' G w'∧On P S (At P S) i T' (λb=>x.own b∧¬G b) g' w'):
 ∃sQ γ' G',MI P S AI free O ((gs.map (woken P x.g g' w')).setIfInBounds i g') w' (t++MemOp.ofEvents i x.g.frame.fn x.g.frame.place es) (upd θ i sQ) s' γ' G' D Dc∧stops (upd θ i sQ)=upd (stops θ) i (if S.quit T' then none else some T'):=by
 classical
 have h1:=h.one i x.g hi;rw [hx] at h1;obtain ⟨_,Oi,EO,hDeaf,mP,BX,di⟩:=h1;have hlt:=(aa.1 hi).1;have hφ:stops θ i=some x.Tt:=by unfold stops;rw [hx];rfl
 obtain ⟨o1,o3,o4,o5,o6,o7,o8,o9,Tp⟩:=ok.sO h.ai hlt hφ hmv hk;have hdf:=ok.iI h.ai hlt hφ hmv;rw [hk] at hdf he;obtain ⟨a,ha,rfl⟩:∃a,S.dZ s=some a∧es= #[⟨.mark (.releaseMerge a),false,true⟩]:=he;obtain ⟨G',hG,hJ,hon⟩:=hon;obtain ⟨who',hwho⟩:∃who':Loc->Who,who'= λl=>if dU l∧G' (lb l) then .lk else γ.who l:=⟨_,rfl⟩
 have uD:∀l,dU l->G' (lb l)->who' l= .lk:= λl h1 h2=>by rw [hwho];exact if_pos ⟨h1,h2⟩
 have mD:∀l,¬(dU l∧G' (lb l))->who' l=γ.who l:= λl h1=>by rw [hwho];exact if_neg h1
 have XR:∀l,dU l->G' (lb l)->γ.who l= .eZ i:= λl h1 h2=>(di.own _ (hG _ h2)).2 l h1 rfl
 have kZ:∀l,γ.who l≠ .eZ i->who' l=γ.who l:= λl hl=>mD l λ⟨h1,h2⟩=>hl (XR l h1 h2)
 have hti:=h.ti.release (y:={ g:=i,fn:=x.g.frame.fn,pos:=x.g.frame.place,act:=.mark (.releaseMerge a) }) (a:=a) (by rw [h.dZ,ha]) rfl (by rw [hDeaf,o6]) (who':=who') (λl=>by
  by_cases hl:dU l∧G' (lb l)
  ·exact .inr ⟨XR l hl.1 hl.2,uD l hl.1 hl.2⟩
  ·exact .inl (mD l hl))
 have Y4:eU { γ with who:=who' } w'.heap.size i (S.Z i T') (λb=>x.own b∧¬G' b):=by
  rw [o8,hst.size];refine ⟨λb hb=>⟨(di.own b hb.1).1, λl h1 h2=>?_⟩, λb c hb=>⟨(di.cl b c hb).1,?_, λa e1 e2=>?_⟩, λb hb=>⟨(di.ro b hb).1, λl h1 h2=>?_⟩, λb hb=>⟨(di.sy b hb).1,?_⟩⟩
  ·show who' l=_;rw [mD l λhm=>hb.2 (by rw [<-h2];exact hm.2)];exact (di.own b hb.1).2 l h1 h2
  ·show who' _=_;rw [kZ _ (by rw [(di.cl b c hb).2.1];simp)];exact (di.cl b c hb).2.1
  ·show who' _=_;have e:=(di.cl b c hb).2.2 a e1 e2;rw [mD _ λhm=>?_]
   ·exact e
   ·have h3:G' b:=by rw [<-e1];exact hm.2
    have :=(di.cl b c hb).2.1.symm.trans (di.mq (hG b h3));cases this
  ·show who' l=_;rw [kZ l (by rw [(di.ro b hb).2 l h1 h2];simp)];exact (di.ro b hb).2 l h1 h2
  ·show who' _=_∨who' _=_;rcases (di.sy b hb).2 with e|e<;>rw [kZ _ (by rw [e];simp)]
   ·exact .inl e
   ·exact .inr e
 have hdd:Deaf (t++MemOp.ofEvents i x.g.frame.fn x.g.frame.place #[⟨.mark (.releaseMerge a),false,true⟩]) i=S.deaf T':=by
  rw [Deaf_own,hDeaf,hdf,jQ (S:=S) (s:=s) (k:=.sO) ⟨a,ha,rfl⟩]
 obtain ⟨sQ,A7,hstop,MQ⟩:=sU (s':=s') Tp hon hdd (γ':={ γ with who:=who' }) mP (λh0=>by rw [o9];exact BX h0) Y4
 refine ⟨sQ,{ γ with who:=who' },G',MI.hand ok h hi hx hf hr hb hmv hwk hrep hst (vg (λ_ _ _ _ _=>jL) hon) (by rw [hd1];exact hti) rfl A7 hstop (λ_=>MQ)
  (λj y hne _ _ k=>k.turn λl=>?_) (λ_ _ h=>h) (λ_ _=>Iff.rfl) (λl hl=>?_) (λl hl=>?_) (λl hl=>?_) (λhn=>?_) (by rw [o3];exact h.dZ) (by rw [o4];exact h.mo) (λ_=>⟨hJ, λb hb=>⟨?_, λl h1 h2=>uD l h1 (by rw [h2];exact hb)⟩⟩) ?_⟩
 ·by_cases hl:γ.who l= .eZ i
  ·refine .inr ?_
   rw [hl];exact ⟨λe=>hne (Who.eZ.inj e).symm,by simp,by simp,by simp⟩
  ·exact .inl (kZ l hl)
 ·show who' l=_;rw [kZ l (by rw [hl];simp)];exact hl
 ·show who' l=_;rw [mD l λhm=>hl hm.1];exact h.nomem l hl
 ·show who' l≠_∧(who' l=_->_)
  by_cases hg:G' (lb l)
  ·rw [uD l hl hg];exact ⟨by simp,by simp⟩
  ·rw [mD l λhm=>hg hm.2];exact h.memo l hl
 ·rw [o4] at hn;exact absurd hn o5
 ·rw [hst.size];exact (di.own b (hG b hb)).1
 ·refine h.IY ok hst (λl=>?_) o7
  by_cases hl:γ.who l= .eZ i
  ·exact .inr (by rw [hl];simp)
  ·exact .inl (kZ l hl)
end
end Par
end
section
namespace Par
open Go Go.Conc Go.ConcM Go.ConcN
variable {O:Nat->Prop}
section
variable {T Sh ρ:Type} {P:Program} {S:Sys T Sh} {AI:Nat->(Nat->Option T)->Sh->Prop} {free:Sh->Prop} {rk:Nat->(Nat->Option T)->Sh->ρ} {lt:ρ->ρ->Prop}
theorem MI.Tq {gs:Array Goroutine} {w:World} {t:Trace} {θ:Nat->TS T} {s:Sh} {γ:Gh} {G D:Nat->Prop} {Dc:Nat->Nat->Prop} (ok:sP S AI free rk lt) (h:MI P S AI free O gs w t θ s γ G D Dc)
 {i:Nat} {x:Tk T} (hi:gs[i]?=some x.g) (hx:θ i= .eZ x) {T':T} {s':Sh} {g':Goroutine} {w':World} {es:Array Event}
 (hf:S.fork x.Tt=false) (hr:S.ret x.Tt=false) (hb:¬S.blk x.Tt s) (hmv:S.mv i x.Tt s T' s') (hwk:S.wakes x.Tt=true->mayWake P x.g=true) (hrep:S.Db s' w') (hst:cZ S w w') (he:Q5 S s (S.kind x.Tt) es) (hk:S.kind x.Tt= .done)
 (hdp:∀D Dc,S.Dp s D Dc w'->S.Dp s' (λb=>D b∨x.own b) (λb k=>Dc b k∨(S.Z i x.Tt).cl b k) w') (hon:On P S (At P S) i T' (λ_=>False) g' w'):
 ∃sQ γ' D' FQ,MI P S AI free O ((gs.map (woken P x.g g' w')).setIfInBounds i g') w' (t++MemOp.ofEvents i x.g.frame.fn x.g.frame.place es) (upd θ i sQ) s' γ' G D' FQ∧stops (upd θ i sQ)=upd (stops θ) i (if S.quit T' then none else some T'):=by
 classical
 have h1:=h.one i x.g hi;rw [hx] at h1;obtain ⟨_,Oi,EO,hDeaf,mP,BX,di⟩:=h1;have hlt:=(aa.1 hi).1;have hφ:stops θ i=some x.Tt:=by unfold stops;rw [hx];rfl
 obtain ⟨o1,o2,o3,o4,o5,o6,o7,o8,o9,Tp,XT,Y5,o13⟩:=ok.done h.ai hlt hφ hmv hk;have hdf:=ok.iI h.ai hlt hφ hmv;rw [hk] at hdf he;obtain ⟨a,ha,rfl⟩:∃a,S.mo s=some a∧es= #[⟨.mark (.releaseMerge a),false,true⟩]:=he;obtain ⟨who',hwho⟩:∃who':Loc->Who,who'= λl=>if γ.who l= .eZ i then .dn else γ.who l:=⟨_,rfl⟩
 have uD:∀l,γ.who l= .eZ i->who' l= .dn:= λl h1=>by rw [hwho];exact if_pos h1
 have mD:∀l,γ.who l≠ .eZ i->who' l=γ.who l:= λl h1=>by rw [hwho];exact if_neg h1
 have hti:=h.ti.done (y:={ g:=i,fn:=x.g.frame.fn,pos:=x.g.frame.place,act:=.mark (.releaseMerge a) }) (a:=a) (by rw [h.mo,ha]) rfl (by rw [hDeaf,o4]) (who':=who') (λl=>by
  by_cases hl:γ.who l= .eZ i
  ·rw [uD l hl];exact ⟨by simp,.inr ⟨hl,rfl⟩⟩
  ·rw [mD l hl];exact ⟨hl,.inl rfl⟩)
 have Y4:eU { γ with who:=who',act:= λg=>γ.act g∧g≠i } w'.heap.size i (S.Z i T') (λ_=>False):=by
  rw [hst.size];refine ⟨λb hb=>hb.elim, λb c hb=>absurd hb (Y5 b c), λb hb=>⟨(di.ro b (Tp b hb)).1, λl h1 h2=>?_⟩, λb hb=>⟨(di.sy b (XT b hb)).1,?_⟩⟩
  ·show who' l=_;have e:=(di.ro b (Tp b hb)).2 l h1 h2;rw [mD l (by rw [e];simp)];exact e
  ·show who' _=_∨who' _=_;rcases (di.sy b (XT b hb)).2 with e|e<;>rw [mD _ (by rw [e];simp)]
   ·exact .inl e
   ·exact .inr e
 have hdd:Deaf (t++MemOp.ofEvents i x.g.frame.fn x.g.frame.place #[⟨.mark (.releaseMerge a),false,true⟩]) i=S.deaf T':=by
  rw [Deaf_own,hDeaf,hdf,jQ (S:=S) (s:=s) (k:=.done) ⟨a,ha,rfl⟩]
 obtain ⟨sQ,A7,hstop,MQ⟩:=sU (s':=s') o13 hon hdd (γ':={ γ with who:=who',act:= λg=>γ.act g∧g≠i }) mP (λ_=>⟨λx=>absurd rfl x.2, λx=>by rw [o3] at x;cases x⟩) Y4
 refine ⟨sQ,{ γ with who:=who',act:= λg=>γ.act g∧g≠i },_,_,MI.hand ok h hi hx hf hr hb hmv hwk hrep hst (vg (λ_ _ _ _ _=>jL) hon) (by rw [hd1];exact hti) rfl A7 hstop (λ_=>MQ)
  (λj y hne _ _ k=>k.turn λl=>?_) (λ_ _ h=>h) (λj hj=>⟨λx=>x.1, λx=>⟨x,hj⟩⟩) (λl hl=>?_) (λl hl=>?_) (λl hl=>?_) (λhn=>?_) (by rw [o5];exact h.dZ) (by rw [o6];exact h.mo) (λhf'=>?_) ⟨hdp D Dc (h.IY ok hst (γ':=γ) (λ_=>.inl rfl) λ_ _ _ x=>x).1, λb hb=>?_, λb k hb=>?_⟩⟩
 ·by_cases hl:γ.who l= .eZ i
  ·refine .inr ?_
   rw [hl];exact ⟨λe=>hne (Who.eZ.inj e).symm,by simp,by simp,by simp⟩
  ·exact .inl (mD l hl)
 ·show who' l=_;rw [mD l (by rw [hl];simp)];exact hl
 ·show who' l=_;have e:=h.nomem l hl;rw [mD l (by rw [e];simp)];exact e
 ·show who' l≠_∧(who' l=_->_)
  by_cases hg:γ.who l= .eZ i
  ·rw [uD l hg];exact ⟨by simp,by simp⟩
  ·rw [mD l hg];exact h.memo l hl
 ·rw [o6] at hn;exact absurd hn o7
 ·obtain ⟨h2,h3⟩:=h.lk (o8.1 hf');refine ⟨o9 G w' (ok.xO s G w w' h2 λb hb=>h.ES hst (by rw [(h3 b hb).2 (.obj b) trivial rfl];simp)), λb hb=>⟨by rw [hst.size];exact (h3 b hb).1, λl h1 h2=>?_⟩⟩;show who' l=_;have e:=(h3 b hb).2 l h1 h2;rw [mD l (by rw [e];simp)];exact e
 ·obtain ⟨_,d2,_⟩:=h.dn;rcases hb with hb|hb
  ·refine ⟨by rw [hst.size];exact (d2 b hb).1, λl h1 h2=>?_⟩;show who' l=_;have e:=(d2 b hb).2 l h1 h2;rw [mD l (by rw [e];simp)];exact e
  ·exact ⟨by rw [hst.size];exact (di.own b hb).1, λl h1 h2=>uD l ((di.own b hb).2 l h1 h2)⟩
 ·obtain ⟨_,_,d3⟩:=h.dn;rcases hb with hb|hb
  ·refine ⟨by rw [hst.size];exact (d3 b k hb).1,?_, λa e1 e2=>?_⟩
   ·show who' _=_;have e:=(d3 b k hb).2.1;rw [mD _ (by rw [e];simp)];exact e
   ·show who' _=_;have e:=(d3 b k hb).2.2 a e1 e2;rw [mD _ (by rw [e];simp)];exact e
  ·obtain ⟨c1,c2,c3⟩:=di.cl b k hb;refine ⟨by rw [hst.size];exact (di.sy b c1).1,?_, λa e1 e2=>uD _ (c3 a e1 e2)⟩;show who' _=_;rw [mD _ (by rw [c2];simp)];exact c2
theorem MI.Tu {gs:Array Goroutine} {w:World} {t:Trace} {θ:Nat->TS T} {s:Sh} {γ:Gh} {G D:Nat->Prop} {Dc:Nat->Nat->Prop} (ok:sP S AI free rk lt) (h:MI P S AI free O gs w t θ s γ G D Dc)
 {i:Nat} {x:Tk T} (hi:gs[i]?=some x.g) (hx:θ i= .eZ x) {T':T} {s':Sh} {g':Goroutine} {w':World} {es:Array Event}
 (hf:S.fork x.Tt=false) (hr:S.ret x.Tt=false) (hb:¬S.blk x.Tt s) (hmv:S.mv i x.Tt s T' s') (hwk:S.wakes x.Tt=true->mayWake P x.g=true) (hrep:S.Db s' w') (hst:cZ S w w') (he:Q5 S s (S.kind x.Tt) es) (hk:S.kind x.Tt= .join)
 (hon:∀G D Dc own',S.J s G w'->S.Dp s D Dc w'->(∀b,own' b->b<w'.heap.size∧¬S.syn b)->(∀b,x.own b->own' b)->(∀b,G b->own' b)->(∀b,D b->own' b)->On P S (At P S) i T' own' g' w'):
 ∃sQ γ' G' D' FQ,MI P S AI free O ((gs.map (woken P x.g g' w')).setIfInBounds i g') w' (t++MemOp.ofEvents i x.g.frame.fn x.g.frame.place es) (upd θ i sQ) s' γ' G' D' FQ∧stops (upd θ i sQ)=upd (stops θ) i (if S.quit T' then none else some T'):=by
 classical
 have h1:=h.one i x.g hi;rw [hx] at h1;obtain ⟨_,Oi,EO,hDeaf,mP,BX,di⟩:=h1;have hlt:=(aa.1 hi).1;have hφ:stops θ i=some x.Tt:=by unfold stops;rw [hx];rfl
 obtain ⟨o1,o2,o3,o4,o5,o6,o7,o8,o9,Tp,XT,Y5⟩:=ok.join h.ai hlt hφ hmv hk;have hdf:=ok.iI h.ai hlt hφ hmv;rw [hk] at hdf he;subst o1;obtain ⟨a,ha,rfl⟩:∃a,S.mo s=some a∧es= #[⟨.mark (.acquire a),false,true⟩]:=he
 have XU:∀j y,j<gs.size->j≠0->θ j≠ .eZ y:= λj y h1 h2 e=>by
  have :=o4 j h1 h2;unfold stops at this;rw [e] at this;cases this
 obtain ⟨who',hwho⟩:∃who':Loc->Who,who'= λl=>if γ.who l= .sy then .sy else if γ.who l= .fr then .fr else .eZ 0:=⟨_,rfl⟩
 have VW:∀l,γ.who l= .sy->who' l= .sy:= λl h1=>by rw [hwho];exact if_pos h1
 have wfr:∀l,γ.who l= .fr->who' l= .fr:= λl h1=>by rw [hwho];simp [h1]
 have uD:∀l,γ.who l≠ .sy->γ.who l≠ .fr->who' l= .eZ 0:= λl h1 h2=>by rw [hwho];simp [h1,h2]
 have ah3:∀l,dU l->¬(S.syn (lb l)∨O (lb l))->who' l= .eZ 0:= λl hl hn=>uD l (λe=>hn ((h.memo l hl).2 e)) (h.memo l hl).1
 have hno:∀g,g≠0->¬γ.act g:= λg hg ha=>by
  have hlt':=h.AX g ha;have :=h.one g gs[g] (by simp [hlt']);cases wE:θ g with
  |eZ y=>exact XU g y hlt' hg wE
  |lv k d=>rw [wE] at this;exact this.2.2.2 ha
 have hti:=(h.ti.join (z:={ g:=0,fn:=x.g.frame.fn,pos:=x.g.frame.place,act:=.mark (.acquire a) }) (a:=a) (by rw [h.mo,ha]) rfl rfl (by rw [hDeaf,o3]) hno (who':=who') (λl=>by
  by_cases h1:γ.who l= .sy
  ·exact .inl ⟨by rw [VW l h1,h1],.inl h1⟩
  ·by_cases h2:γ.who l= .fr
   ·exact .inl ⟨by rw [wfr l h2,h2],.inr h2⟩
   ·exact .inr ⟨h1,uD l h1 h2⟩)).1
 obtain ⟨hJ,hG⟩:=h.lk o2;have hon:=hon G D Dc (λb=>b<w'.heap.size∧¬(S.syn b∨O b)) (ok.xO s G w w' hJ λb hb=>h.ES hst (by rw [(hG b hb).2 (.obj b) trivial rfl];simp)) (h.IY ok hst (γ':=γ) (λ_=>.inl rfl) λ_ _ _ x=>x).1 (λb hb=>⟨hb.1, λhs=>hb.2 (.inl hs)⟩) (λb hb=>⟨by rw [hst.size];exact (di.own b hb).1, λhs=>by have :=((h.syn b hs).2 (.obj b) trivial rfl).symm.trans (di.mq hb);cases this⟩) (λb hb=>⟨by rw [hst.size];exact (hG b hb).1, λhs=>by have :=((h.syn b hs).2 (.obj b) trivial rfl).symm.trans ((hG b hb).2 (.obj b) trivial rfl);cases this⟩) (λb hb=>⟨by rw [hst.size];exact (h.dn.2.1 b hb).1, λhs=>by have :=((h.syn b hs).2 (.obj b) trivial rfl).symm.trans ((h.dn.2.1 b hb).2 (.obj b) trivial rfl);cases this⟩)
 have Y4:eU { γ with who:=who',wg:=none,lock:=none } w'.heap.size 0 (S.Z 0 T') (λb=>b<w'.heap.size∧¬(S.syn b∨O b)):=
  ⟨λb hb=>⟨hb.1, λl h1 h2=>ah3 l h1 (by rw [h2];exact hb.2)⟩, λb c hb=>absurd hb (XT b c), λb hb=>absurd hb (o9 b), λb hb=>absurd hb (Tp b)⟩
 have hdd:Deaf (t++MemOp.ofEvents 0 x.g.frame.fn x.g.frame.place #[⟨.mark (.acquire a),false,true⟩]) 0=S.deaf T':=by
  rw [Deaf_own,hDeaf,hdf,jQ (S:=S) (s:=s) (k:=.join) ⟨a,ha,rfl⟩]
 obtain ⟨sQ,A7,hstop,MQ⟩:=sU (s':=s') Y5 hon hdd (γ':={ γ with who:=who',wg:=none,lock:=none }) mP (λh0=>absurd rfl h0) Y4
 refine ⟨sQ,{ γ with who:=who',wg:=none,lock:=none }, λ_=>False, λ_=>False, λ_ _=>False,MI.hand ok h hi hx hf hr hb hmv hwk hrep hst (vg (λ_ _ _ _ _=>jL) hon) (by rw [hd1];exact hti) rfl A7 hstop (λ_=>MQ)
  (λj y hne hy hj k=>absurd hy (XU j y hj hne)) (λ_ _ h=>h) (λ_ _=>Iff.rfl) (λl hl=>VW l hl) (λl hl=>wfr l (h.nomem l hl)) (λl hl=>?_) (λ_ l hl hn=>ah3 l hl hn) o5.symm o6.symm (λhf'=>absurd hf' o7) ⟨o8 w', λb hb=>hb.elim, λb k hb=>hb.elim⟩⟩
 show who' l≠_∧(who' l=_->_)
 by_cases hs:γ.who l= .sy
 ·rw [VW l hs];exact ⟨by simp, λ_=>(h.memo l hl).2 hs⟩
 ·rw [uD l hs (h.memo l hl).1];exact ⟨by simp,by simp⟩
theorem IZ {t:Trace} {x y:MemOp} {k:Nat} (hx:x.act= .go k) (hy:y.act= .start) (g:Nat):Deaf (t++ #[x,y]) g=Deaf t g:=by
 have e:t++ #[x,y]=t++ [x,y].toArray:=rfl;rw [e,Deaf_append];simp only [List.foldl_cons,List.foldl_nil];unfold deafStep;rw [hx,hy]
theorem Y6 {w:World} {t:Trace} {s:Sh} {γ:Gh} {j:Nat} {gj:Goroutine} {AY:TS T} {x y:MemOp} {k:Nat} (hx:x.act= .go k) (hy:y.act= .start) (h:One P S w t s γ j gj AY):One P S w (t++ #[x,y]) s γ j gj AY:=by
 cases AY with
 |lv k d=>
  obtain ⟨h1,h2,h3,h4⟩:=h;exact ⟨h1,by rw [IZ hx hy];exact h2,h3,h4⟩
 |eZ z=>
  obtain ⟨h1,h2,h3,h4,h5,h6,h7⟩:=h;exact ⟨h1,h2,h3,by rw [IZ hx hy];exact h4,h5,h6,h7⟩
theorem MI.P6 {gs:Array Goroutine} {w:World} {t:Trace} {θ:Nat->TS T} {s:Sh} {γ:Gh} {G D:Nat->Prop} {Dc:Nat->Nat->Prop} (ok:sP S AI free rk lt) (h:MI P S AI free O gs w t θ s γ G D Dc)
 {x:Tk T} (hi:gs[0]?=some x.g) (hx:θ 0= .eZ x) {T' Tc:T} {s':Sh} {g' child:Goroutine} {own' qE:Nat->Prop}
 (hf:S.fork x.Tt=true) (hsp:S.sp x.Tt s T' Tc s') (hrep:S.Db s' w) (hown:∀b,x.own b↔own' b∨qE b) (xR:∀b,own' b->¬qE b)
 (hon:On P S (At P S) 0 T' own' g' w) (Y7:∀k,k≠0->On P S (At P S) k Tc qE child w) (Y8 Y9:FuncId) (pos1 pos2:String):
 ∃Vd θc γ',MI P S AI free O ((gs.setIfInBounds 0 g').push child) w (t++ #[{ g:=0,fn:=Y8,pos:=pos1,act:=.go gs.size },{ g:=gs.size,fn:=Y9,pos:=pos2,act:=.start }]) (upd (upd θ 0 Vd) gs.size θc) s' γ' G D Dc∧
  stops (upd (upd θ 0 Vd) gs.size θc)=upd (upd (stops θ) 0 (some T')) gs.size (some Tc):=by
 classical
 have h1:=h.one 0 x.g hi;rw [hx] at h1;obtain ⟨_,Oi,EO,hDeaf,mP,BX,di⟩:=h1;have hlt:=(aa.1 hi).1;have hφ:stops θ 0=some x.Tt:=by unfold stops;rw [hx];rfl
 obtain ⟨hsame,o2,o3,o4,o5,o6,o7,o8,o9,Tp,XT,Y5,o13,o14⟩:=ok.MO h.ai hφ hf hsp;obtain ⟨hai,_⟩:=ok.spawn h.ai hφ hf hsp;have hn0:gs.size≠0:=by omega
 obtain ⟨n,hn⟩:∃n,n=gs.size:=⟨_,rfl⟩;rw [<-hn] at XT Y5 o14 hai hn0 ⊢;have Y7:=Y7 n hn0;obtain ⟨C,hC⟩:∃C:Loc->Prop,C= λl=>(dU l∧qE (lb l))∨∃a:Addr,l= .cell a∧(S.Z n Tc).cl a.block a.off:=⟨_,rfl⟩
 have cth:∀l,C l->γ.who l= .eZ 0:=by
  intro l hl;rw [hC] at hl;rcases hl with ⟨h1,h2⟩|⟨a,rfl,h2⟩
  ·exact (di.own _ ((hown _).2 (.inr h2))).2 l h1 rfl
  ·exact (di.cl _ _ (o14 _ _ h2).2.1).2.2 a rfl rfl
 obtain ⟨who',hwho⟩:∃who':Loc->Who,who'= λl=>if C l then .eZ n else γ.who l:=⟨_,rfl⟩
 have uD:∀l,C l->who' l= .eZ n:= λl h1=>by rw [hwho];exact if_pos h1
 have mD:∀l,¬C l->who' l=γ.who l:= λl h1=>by rw [hwho];exact if_neg h1
 have kZ:∀l,γ.who l≠ .eZ 0->who' l=γ.who l:= λl hl=>mD l λhc=>hl (cth l hc)
 obtain ⟨γ',hγ⟩:∃γ':Gh,γ'= { γ with who:=who',live:= λg=>γ.live g∨g=n,act:= λg=>γ.act g∨g=n }:=⟨_,rfl⟩;have mV:γ'.who=who':=by rw [hγ]
 have P7:Deaf t n=0:=Deaf_absent λi op hop=>Nat.ne_of_lt (by rw [hn];exact h.nums op (aK hop))
 have hti:TI γ' (t++ #[{ g:=0,fn:=Y8,pos:=pos1,act:=.go n },{ g:=n,fn:=Y9,pos:=pos2,act:=.start }]):=by
  rw [hγ]
  exact h.ti.fork (k:=n) (x:={ g:=0,fn:=Y8,pos:=pos1,act:=.go n }) (y:={ g:=n,fn:=Y9,pos:=pos2,act:=.start }) ⟨rfl,rfl⟩ ⟨rfl,rfl⟩ (by rw [hDeaf,o3]) P7 mP (who':=who') λl=>by
   by_cases hl:C l
   ·exact .inr ⟨cth l hl,uD l hl⟩
   ·exact .inl (mD l hl)
 have hdd:∀g,Deaf (t++ #[{ g:=0,fn:=Y8,pos:=pos1,act:=.go n },{ g:=n,fn:=Y9,pos:=pos2,act:=.start }]) g=Deaf t g:= λg=>IZ rfl rfl g
 have other:∀{j Z own},j≠0->eU γ w.heap.size j Z own->eU γ' w.heap.size j Z own:= λhj k=>k.turn λl=>by
  rw [mV]
  by_cases hl:C l
  ·refine .inr ?_
   rw [cth l hl];exact ⟨λe=>hj (Who.eZ.inj e).symm,by simp,by simp,by simp⟩
  ·exact .inl (mD l hl)
 have ah4:∀b k,(S.Z n Tc).cl b k->∀b',x.own b'->b'≠b:= λb k hb b' hb' e=>by
  have :=(di.cl b k (o14 b k hb).2.1).2.1.symm.trans (di.mq (e ▸ hb'));cases this
 have hR0:eU γ' w.heap.size 0 (S.Z 0 T') own':=by
  refine ⟨λb hb=>⟨(di.own b ((hown b).2 (.inl hb))).1, λl h1 h2=>?_⟩, λb c hb=>⟨(o13 b c hb).1,?_, λa e1 e2=>?_⟩, λb hb=>⟨(di.ro b (o9 b hb)).1, λl h1 h2=>?_⟩, λb hb=>⟨(di.sy b (Tp b hb)).1,?_⟩⟩
  ·rw [mV,mD l]
   ·exact (di.own b ((hown b).2 (.inl hb))).2 l h1 h2
   ·intro hc;rw [hC] at hc;rcases hc with ⟨_,h3⟩|⟨a,rfl,h3⟩
    ·rw [h2] at h3;exact xR b hb h3
    ·exact ah4 _ _ h3 b ((hown b).2 (.inl hb)) h2.symm
  ·have e:=(di.cl b c (o13 b c hb).2).2.1;rw [mV,kZ _ (by rw [e];simp)];exact e
  ·have e:=(di.cl b c (o13 b c hb).2).2;rw [mV,mD]
   ·exact e.2 a e1 e2
   ·intro hc;rw [hC] at hc;rcases hc with ⟨_,h3⟩|⟨a',ea,h3⟩
    ·have h3:qE a.block:=h3;rw [e1] at h3;have :=e.1.symm.trans (di.mq ((hown b).2 (.inr h3)));cases this
    ·cases ea;rw [e1,e2] at h3;exact (o14 b c h3).2.2 hb
  ·have e:=(di.ro b (o9 b hb)).2 l h1 h2;rw [mV,kZ l (by rw [e];simp)];exact e
  ·rw [mV];rcases (di.sy b (Tp b hb)).2 with e|e<;>rw [kZ _ (by rw [e];simp)]
   ·exact .inl e
   ·exact .inr e
 have hRc:eU γ' w.heap.size n (S.Z n Tc) qE:=by
  refine ⟨λb hb=>⟨(di.own b ((hown b).2 (.inr hb))).1, λl h1 h2=>?_⟩, λb c hb=>⟨(o14 b c hb).1,?_, λa e1 e2=>?_⟩, λb hb=>⟨(di.ro b (XT b hb)).1, λl h1 h2=>?_⟩, λb hb=>⟨(di.sy b (Y5 b hb)).1,?_⟩⟩
  ·rw [mV];exact uD l (by rw [hC];exact .inl ⟨h1,by rw [h2];exact hb⟩)
  ·have e:=(di.cl b c (o14 b c hb).2.1).2.1;rw [mV,kZ _ (by rw [e];simp)];exact e
  ·rw [mV];exact uD _ (by rw [hC];exact .inr ⟨a,rfl,by rw [e1,e2];exact hb⟩)
  ·have e:=(di.ro b (XT b hb)).2 l h1 h2;rw [mV,kZ l (by rw [e];simp)];exact e
  ·rw [mV];rcases (di.sy b (Y5 b hb)).2 with e|e<;>rw [kZ _ (by rw [e];simp)]
   ·exact .inl e
   ·exact .inr e
 obtain ⟨Vd,Za,Tv,Tw⟩:=sU (s':=s') o7 hon (by rw [hdd,hDeaf,o3,o4]) (γ':=γ') (by rw [hγ];exact .inl mP) (λh0=>absurd rfl h0) hR0;obtain ⟨θc,ap7,ah5,au5⟩:=sU (s':=s') o8 Y7 (by rw [hdd,P7,o5]) (γ':=γ') (by rw [hγ];exact .inr rfl) (λ_=>⟨λ_=>o6, λ_=>by rw [hγ];exact .inr rfl⟩) hRc;rw [if_neg (by rw [o7];simp)] at Tv;rw [if_neg (by rw [o8];simp)] at ah5;have ah6:stops (upd (upd θ 0 Vd) n θc)=upd (upd (stops θ) 0 (some T')) n (some Tc):=by rw [BZ ah5,BZ Tv]
 refine ⟨Vd,θc,γ',⟨λj gj hj=>?_,?_,by simp,by rw [ah6];simpa [<-hn] using hai,hrep,hti,by rw [hγ];exact h.B, λop hop=>?_, λb hb=>⟨(h.syn b hb).1, λl h1 h2=>?_⟩, λl hl=>?_, λl hl=>?_, λk hk=>?_, λhj=>absurd (hsame.mo ▸ hj) o2,by rw [hγ,hsame.dZ];exact h.dZ,by rw [hγ,hsame.mo];exact h.mo, λhf'=>?_,?_⟩,ah6⟩
 ·rw [Array.getElem?_push] at hj;split at hj
  ·rename_i e;simp at e;have e:j=n:=by rw [e,hn]
   subst e;rw [upd_same];cases hj;exact ap7
  ·rename_i e;have e:j≠n:= λe'=>e (by simp [e',hn])
   rw [upd_ne e]
   by_cases hj0:j=0
   ·subst hj0;rw [upd_same];rw [Array.getElem?_setIfInBounds_self_of_lt hlt] at hj;cases hj;exact Za
   ·rw [upd_ne hj0];rw [Array.getElem?_setIfInBounds_ne (Ne.symm hj0)] at hj;have hjlt:=(aa.1 hj).1;have h2:=Y6 (x:={ g:=0,fn:=Y8,pos:=pos1,act:=.go n }) (y:={ g:=n,fn:=Y9,pos:=pos2,act:=.start }) rfl rfl (h.one j gj hj)
    have h3:One P S w (t++ #[{ g:=0,fn:=Y8,pos:=pos1,act:=.go n },{ g:=n,fn:=Y9,pos:=pos2,act:=.start }]) s' γ j gj (θ j):=by
     cases wE:θ j with
     |lv k d=>rw [wE] at h2;exact h2
     |eZ y=>
      rw [wE] at h2;obtain ⟨b1,b2⟩:=h2;refine ⟨b1.imp id λ⟨c1,c2,c3⟩=>⟨c1,?_,c3⟩,b2⟩;have Tn:stops θ j=some y.Tt:=by unfold stops;rw [wE];rfl
      exact ok.stay h.ai hlt hφ ((ok.AU _ hf).2 s) (ok.AU _ hf).1 (.inr ⟨Tc,hsp⟩) j y.Tt hjlt hj0 Tn c2
    refine ET h3 (λy _ k=>other hj0 k) (λx=>by rw [hγ];exact .inl x) ?_
    rw [hγ];exact ⟨λx=>x.resolve_right e, λx=>.inl x⟩
 ·obtain ⟨y,hy⟩:=Tw;exact ⟨y,by rw [upd_ne (Ne.symm hn0),upd_same];exact hy⟩
 ·rcases Array.mem_append.1 hop with hop|hop
  ·have :=h.nums op hop;simp;omega
  ·have :op= { g:=0,fn:=Y8,pos:=pos1,act:=.go n }∨op= { g:=n,fn:=Y9,pos:=pos2,act:=.start }:=by simpa using hop
   rcases this with rfl|rfl<;>simp;omega
 ·have e:=(h.syn b hb).2 l h1 h2;rw [mV,kZ l (by rw [e];simp)];exact e
 ·have e:=h.nomem l hl;rw [mV,kZ l (by rw [e];simp)];exact e
 ·rw [mV]
  by_cases hc:C l
  ·rw [uD l hc];exact ⟨by simp,by simp⟩
  ·rw [mD l hc];exact h.memo l hl
 ·rw [hγ] at hk;rcases hk with hk|rfl
  ·have :=h.AX k hk;simp;omega
  ·simp [hn]
 ·obtain ⟨h2,h3⟩:=h.lk (hsame.free.1 hf');refine ⟨hsame.J G w h2, λb hb=>⟨(h3 b hb).1, λl h1 h2=>?_⟩⟩;have e:=(h3 b hb).2 l h1 h2;rw [mV,kZ l (by rw [e];simp)];exact e
 ·obtain ⟨d1,d2,d3⟩:=h.dn;refine ⟨hsame.Dp D Dc w d1, λb hb=>⟨(d2 b hb).1, λl h1 h2=>?_⟩, λb k hb=>⟨(d3 b k hb).1,?_, λa e1 e2=>?_⟩⟩
  ·have e:=(d2 b hb).2 l h1 h2;rw [mV,kZ l (by rw [e];simp)];exact e
  ·have e:=(d3 b k hb).2.1;rw [mV,kZ _ (by rw [e];simp)];exact e
  ·have e:=(d3 b k hb).2.2 a e1 e2;rw [mV,kZ _ (by rw [e];simp)];exact e
end
end Par
end
section
namespace Par
open Go Go.Conc Go.ConcM Go.ConcN
variable {O:Nat->Prop}
def sm:Nat->(Nat->Nat)->Nat
 |0,_=>0
 |n+1,f=>sm n f+f n
theorem GQ {f g:Nat->Nat}:∀{n:Nat},(∀j,j<n->f j<=g j)->sm n f<=sm n g
 |0,_=>aj _
 |n+1,h=>by
  have h1:=GQ (f:=f) (g:=g) (n:=n) λj hj=>h j (by omega)
  have h2:=h n (by omega);show sm n f+f n<=sm n g+g n;omega
theorem Oj {f g:Nat->Nat} {i:Nat}:∀{n:Nat},i<n->f i<g i->(∀j,j<n->f j<=g j)->sm n f<sm n g
 |0,hi,_,_=>by omega
 |n+1,hi,hlt,h=>by
  show sm n f+f n<sm n g+g n
  by_cases e:i=n
  ·subst e;have h1:=GQ (f:=f) (g:=g) (n:=i) λj hj=>h j (by omega)
   omega
  ·have h1:=Oj (f:=f) (g:=g) (n:=n) (by omega) hlt λj hj=>h j (by omega)
   have h2:=h n (by omega);omega
section
variable {T Sh ρ:Type} {P:Program} {S:Sys T Sh} {AI:Nat->(Nat->Option T)->Sh->Prop} {free:Sh->Prop} {rk:Nat->(Nat->Option T)->Sh->ρ} {lt:ρ->ρ->Prop}
def TS.tree {T:Type}:TS T->Tr
 | .eZ x=>x.tr
 | .lv _ _=>.leaf
def TS.left {T:Type}:TS T->Nat
 | .eZ _=>0
 | .lv k _=>k
def trees {T:Type} (n:Nat) (θ:Nat->TS T):List Tr:=(List.range n).map λi=>(θ i).tree
def bit (gs:Array Goroutine) (i:Nat):Nat:=match gs[i]? with
 |some g=>match g.status with
  | .running=>1
  |_=>0
 |none=>0
abbrev Ms (ρ:Type):=ρ×List Tr×Nat×Nat
def ms (rk:Nat->(Nat->Option T)->Sh->ρ) (gs:Array Goroutine) (θ:Nat->TS T) (s:Sh):Ms ρ:=(rk gs.size (stops θ) s,trees gs.size θ,sm gs.size (λi=>(θ i).left),sm gs.size (bit gs))
def Ve (lt:ρ->ρ->Prop):Ms ρ->Ms ρ->Prop:=Prod.Lex lt (Prod.Lex (nD Tr.Sub) (Prod.Lex Nat.lt Nat.lt))
theorem Ve.wf (h:WellFounded lt):WellFounded (Ve (ρ:=ρ) lt):=(Prod.lex ⟨_,h⟩ (Prod.lex ⟨_,nD.wf Tr.wf⟩ (Prod.lex Nat.lt_wfRel Nat.lt_wfRel))).wf
theorem GR {n i:Nat} {θ:Nat->TS T} {a:TS T}:trees n (upd θ i a)=(trees n θ).set i a.tree:=by
 apply List.ext_getElem?;intro j;unfold trees;rw [List.getElem?_set];simp only [List.getElem?_map,List.length_map,List.length_range]
 by_cases hj:i=j
 ·subst hj
  by_cases hi:i<n
  ·simp [hi,upd_same]
  ·simp [hi]
 ·by_cases hi:j<n
  ·simp [hi,hj,upd_ne (Ne.symm hj)]
  ·simp [hi,hj]
theorem GV {n i:Nat} {θ:Nat->TS T} (hi:i<n):(trees n θ)[i]?=some (θ i).tree:=by
 unfold trees;simp [hi]
theorem EU {θ:Nat->TS T} {i:Nat} {a:TS T} (h:a.stop?=(θ i).stop?):stops (upd θ i a)=stops θ:=by
 funext j;unfold stops
 by_cases hj:j=i
 ·subst hj;rw [upd_same];exact h
 ·rw [upd_ne hj]
theorem Zb {gs:Array Goroutine} {w:World} {t:Trace} {θ:Nat->TS T} {s:Sh} {γ:Gh} {G D:Nat->Prop} {Dc:Nat->Nat->Prop} (h:MI P S AI free O gs w t θ s γ G D Dc):∀g∈gs,awake g:=by
 intro g hg;obtain ⟨i,hi,rfl⟩:=Array.mem_iff_getElem.1 hg;have h1:=h.one i gs[i] (aH hi);cases wE:θ i with
 |lv k d=>
  rw [wE] at h1;rcases h1.1.status with e|e<;>intro t ht<;>rw [e] at ht<;>cases ht
 |eZ x=>
  rw [wE] at h1;have hrun:x.g.status= .running:=h1.2.1.running λ_ _ _=>jL
  rcases h1.1 with e|⟨_,_,e⟩<;>intro t ht<;>rw [e] at ht
  ·rw [hrun] at ht;cases ht
  ·cases ht
theorem MI.step (ok:sP S AI free rk lt) {gs:Array Goroutine} {w:World} {sl:Option (Nat×Nat)} {t:Trace} {θ:Nat->TS T} {s:Sh} {γ:Gh} {G D:Nat->Prop} {Dc:Nat->Nat->Prop} (h:MI P S AI free O gs w t θ s γ G D Dc):
 (∃x,θ 0= .eZ x∧gs[0]?=some x.g∧x.tr= .leaf∧S.ret x.Tt=true)∨
 ∃gs' w' sl' ops Kr s' γ' G' D' FQ,stepT P (crowd gs w sl)=(.next (crowd gs' w' sl'),ops)∧MI P S AI free O gs' w' (t++ops) Kr s' γ' G' D' FQ∧Ve lt (ms rk gs' Kr s') (ms rk gs θ s):=by
 obtain ⟨x0,hx0⟩:=h.main
 by_cases hA:x0.tr= .leaf∧S.ret x0.Tt=true
 ·refine .inl ⟨x0,hx0,?_,hA⟩;have hp:=h.pos;have h1:=h.one 0 gs[0] (aH hp);rw [hx0] at h1;rcases h1.1 with e|⟨_,e,_⟩
  ·rw [<-e];exact aH hp
  ·exact absurd e (ok.MP _ _ hA.2)
 ·refine .inr ?_
  have some1:∃(i:Nat) (g:Goroutine),gs[i]?=some g∧g.status= .running:=by
   obtain ⟨i,Tt,hi,hφ,hnb⟩:=ok.alive h.ai;refine ⟨i,gs[i],aH hi,?_⟩;have h1:=h.one i gs[i] (aH hi);cases wE:θ i with
   |lv k d=>unfold stops at hφ;rw [wE] at hφ;cases hφ
   |eZ x=>
    rw [wE] at h1;have :x.Tt=Tt:=by unfold stops at hφ;rw [wE] at hφ;exact aD hφ
    rcases h1.1 with e|⟨_,e,_⟩
    ·rw [e];exact h1.2.1.running λ_ _ _=>jL
    ·rw [this] at e;exact absurd e hnb
  obtain ⟨i,g,d,sl',hi,hg,hst⟩:=crowd_pick (P:=P) (w:=w) (sl:=sl) (Zb h) some1;have hm:=MI.at ok h d;generalize w.at d=wd at hst hm;have hlt:=(aa.1 hi).1;have h1:=hm.one i g hi;cases wE:θ i with
  |lv k d'=>
   obtain ⟨k',d'',g',es,hk,hgo,hm'⟩:=MI.leaver hm hi wE hg;refine ⟨_,_,sl',_,_,s,γ,G,D,Dc,by rw [hst,runT_crowd_go hi hgo],hm',?_⟩;unfold ms Ve;have hsz:((gs.map (woken P g g' wd)).setIfInBounds i g').size=gs.size:=by simp
   rw [hsz,EU (by rw [wE];rfl),GR]
   have htr:(trees gs.size θ).set i (TS.lv (T:=T) k' d'').tree=trees gs.size θ:=by
    apply List.ext_getElem?;intro j;rw [List.getElem?_set];split
    ·rename_i e;subst e;rw [GV hlt,wE];split
     ·rfl
     ·rename_i e;unfold trees at e;simp at e;omega
    ·rfl
   rw [htr];refine .right _ (.right _ (.left _ _ ?_));refine Oj hlt (by rw [upd_same,wE];show k'<k;omega) λj _=>?_
   by_cases hj:j=i
   ·subst hj;rw [upd_same,wE];show k'<=k;omega
   ·rw [upd_ne hj];exact aj _
  |eZ x=>
   rw [wE] at h1
   have hgx:g=x.g:=by
    rcases h1.1 with e|⟨_,_,e⟩
    ·exact e
    ·rw [e] at hg;cases hg
   subst hgx;cases htr:x.tr with
   |node f=>
    obtain ⟨g',w',es,hgo,hm'⟩:=MI.private ok hm hi wE htr;refine ⟨_,_,sl',_,_,s,_,G,D,Dc,by rw [hst,runT_crowd_go hi hgo],hm',?_⟩;unfold ms Ve;have hsz:((gs.map (woken P x.g g' w')).setIfInBounds i g').size=gs.size:=by simp
    rw [hsz,EU (by rw [wE];rfl),GR];refine .right _ (.left _ _ (nD.Tg (b:=.node f) ?_ ⟨f,wd,rfl,rfl⟩));rw [GV hlt,wE];exact congrArg some htr
   |leaf=>
    obtain ⟨_,Oi,EO,_⟩:=h1;rw [htr] at Oi;have Zc:=(Oi wd EO).law;have hφ:stops θ i=some x.Tt:=by unfold stops;rw [wE];rfl
    obtain ⟨f1,f2,f3,f4⟩:=ok.fits hm.ai hlt hφ;obtain ⟨l1,l2,l3⟩:=Zc;have l4:=l3 s hm.rep f1
    by_cases hr:S.ret x.Tt=true
    ·exfalso;have h0:=f4 hr;subst h0;rw [hx0] at wE;cases wE;exact hA ⟨htr,hr⟩
    rw [if_neg hr] at l4;have hr':S.ret x.Tt=false:=by simpa using hr
    by_cases hf:S.fork x.Tt=true
    ·rw [if_pos hf] at l4;obtain ⟨T',Tc,s',g',child,qE,own',a1,a2,a3,a4,a5,a6,a7⟩:=l4;have h0:=f3 hf;subst h0;obtain ⟨Vd,θc,γ',hm',hst'⟩:=MI.P6 ok hm hi wE hf a1 a3 a4 a5 a6 a7 x.g.frame.fn child.frame.fn x.g.frame.place x.g.frame.place;refine ⟨_,_,sl',_,_,s',γ',G,D,Dc,by rw [hst,runT_crowd_spawn hi a2];rfl,hm',?_⟩;unfold ms Ve;have hsz:((gs.setIfInBounds 0 g').push child).size=gs.size+1:=by simp
     rw [hsz,hst'];exact .left _ _ (ok.spawn hm.ai hφ hf a1).2
    ·rw [if_neg hf] at l4;have hf':S.fork x.Tt=false:=by simpa using hf
     rcases l4 with ⟨hb,hgo⟩|⟨hb,T',s',g',w',es,a1,a2,a3,a4,a5,a6,a7⟩
     ·have hm':=MI.waits hm hi wE htr hb
      have hmap:(gs.map (woken P x.g { x.g with status:=.blocked } wd)).setIfInBounds i { x.g with status:=.blocked }=gs.setIfInBounds i { x.g with status:=.blocked }:=by
       have :woken P x.g { x.g with status:=.blocked } wd=id:=by
        funext o;unfold woken;simp
       rw [this,Array.map_id]
      refine ⟨_,_,sl',_,θ,s,γ,G,D,Dc,by rw [hst,runT_crowd_go hi hgo,hmap],by
       have e:MemOp.ofEvents i x.g.frame.fn x.g.frame.place #[]= #[]:=rfl;rw [e,Array.append_empty];exact hm',?_⟩
      unfold ms Ve;have hsz:(gs.setIfInBounds i { x.g with status:=.blocked }).size=gs.size:=by simp
      rw [hsz];refine .right _ (.right _ (.right _ ?_))
      have hbi:bit (gs.setIfInBounds i { x.g with status:=.blocked }) i=0:=by
       unfold bit;rw [Array.getElem?_setIfInBounds_self_of_lt hlt]
      have ap8:bit gs i=1:=by
       unfold bit;rw [hi];simp only [hg]
      refine Oj hlt (by rw [hbi,ap8];omega) λj _=>?_
      by_cases hj:j=i
      ·subst hj;rw [hbi];omega
      ·unfold bit;rw [Array.getElem?_setIfInBounds_ne (Ne.symm hj)];exact aj _
     ·have fin:∀{Kr:Nat->TS T} {γ' G' D' FQ},MI P S AI free O ((gs.map (woken P x.g g' w')).setIfInBounds i g') w' (t++MemOp.ofEvents i x.g.frame.fn x.g.frame.place es) Kr s' γ' G' D' FQ->stops Kr=upd (stops θ) i (if S.quit T' then none else some T')->
       ∃gs' w' sl' ops Kr s' γ' G' D' FQ,stepT P (crowd gs w sl)=(.next (crowd gs' w' sl'),ops)∧MI P S AI free O gs' w' (t++ops) Kr s' γ' G' D' FQ∧Ve lt (ms rk gs' Kr s') (ms rk gs θ s):=by
       intro Kr γ' G' D' FQ hm' hst';refine ⟨_,_,sl',_,Kr,s',γ',G',D',FQ,by rw [hst,runT_crowd_go hi a2],hm',?_⟩;unfold ms Ve;have hsz:((gs.map (woken P x.g g' w')).setIfInBounds i g').size=gs.size:=by simp
       rw [hsz,hst'];exact .left _ _ (ok.move hm.ai hlt hφ hf' hr' hb a1).2
      cases hk:S.kind x.Tt<;>rw [hk] at a7<;>dsimp only at a7
      case sN=>obtain ⟨sQ,γ',G',b1,b2⟩:=MI.VU ok hm hi wE hf' hr' hb a1 a3 a4 a5 a6 hk a7;exact fin b1 b2
      case sO=>obtain ⟨sQ,γ',G',b1,b2⟩:=MI.VV ok hm hi wE hf' hr' hb a1 a3 a4 a5 a6 hk a7;exact fin b1 b2
      case done=>obtain ⟨sQ,γ',D',FQ,b1,b2⟩:=MI.Tq ok hm hi wE hf' hr' hb a1 a3 a4 a5 a6 hk a7.1 a7.2;exact fin b1 b2
      case join=>obtain ⟨sQ,γ',G',D',FQ,b1,b2⟩:=MI.Tu ok hm hi wE hf' hr' hb a1 a3 a4 a5 a6 hk a7;exact fin b1 b2
      all_goals
       obtain ⟨sQ,b1,b2⟩:=MI.P5 ok hm hi wE hf' hr' hb a1 a3 a4 a5 a6 (by rw [hk];rfl) a7;exact fin b1 b2
theorem MI.run (ok:sP S AI free rk lt):∀(μ:Ms ρ) {gs:Array Goroutine} {w:World} {sl:Option (Nat×Nat)} {t:Trace} {θ:Nat->TS T} {s:Sh} {γ:Gh} {G D:Nat->Prop} {Dc:Nat->Nat->Prop},ms rk gs θ s=μ->MI P S AI free O gs w t θ s γ G D Dc->
 ∃N gs' w' sl' t' Kr s' γ' G' D' FQ x,runNT P N (crowd gs w sl) t=(.next (crowd gs' w' sl'),t')∧MI P S AI free O gs' w' t' Kr s' γ' G' D' FQ∧Kr 0= .eZ x∧gs'[0]?=some x.g∧x.tr= .leaf∧S.ret x.Tt=true:=by
 intro μ
 induction μ using (Ve.wf ok.wf).induction with
 |_ μ ih=>
  intro gs w sl t θ s γ G D Dc hμ h;rcases MI.step (sl:=sl) ok h with ⟨x,h1,h2,h3,h4⟩|⟨gs1,w1,sl1,ops,θ1,s1,γ1,G1,D1,Dc1,h1,h2,h3⟩
  ·exact ⟨0,gs,w,sl,t,θ,s,γ,G,D,Dc,x,rfl,h,h1,h2,h3,h4⟩
  ·obtain ⟨N,gs',w',sl',t',Kr,s',γ',G',D',FQ,x,r,rest⟩:=ih _ (by rw [<-hμ];exact h3) (sl:=sl1) rfl h2;exact ⟨N+1,gs',w',sl',t',Kr,s',γ',G',D',FQ,x,by rw [runNT_succ_next h1];exact r,rest⟩
end
end Par
end
section
namespace Par
open Go Go.Conc Go.ConcM Go.ConcN
variable {O:Nat->Prop}
open Classical in
noncomputable def F7 (dead:Nat->Prop) (B:Nat):Gh:={ B:=B,who:= λl=>if dU l then (if dead (lb l) then .sy else .eZ 0) else .fr,live:= λg=>g=0,act:= λ_=>False,lock:=none,wg:=none }
structure QF (P:Program) (dead:Nat->Prop) (gs:Array Goroutine) (w:World) (t:Trace) (g:Goroutine):Prop where
 main:gs[0]?=some g
 lv:∀i g',i≠0->gs[i]?=some g'->∃k,QuitsD P k (Deaf t i) g'
 d0:Deaf t 0=0
 nums:∀op∈t,op.g<gs.size
 dlt:∀b,dead b->b<w.heap.size
 ti:TI (F7 dead w.heap.size) t
def Z0:eG:={ ro:= λ_=>False,sy:= λ_=>False,cl:= λ_ _=>False }
def Ends (P:Program) (Post:Value->World->Prop) (m:Machine) (t:Trace):Prop:=
 ∃N last o w' t',runNT P (N+1) m t=(.ended o w',t')∧runN P N m= .next last∧step P last= .ended o w'∧Good P Post last o w' t'
theorem Ends.after {P:Program} {Post:Value->World->Prop} {m m':Machine} {t t':Trace} {N:Nat} (h:runNT P N m t=(.next m',t')) (he:Ends P Post m' t'):Ends P Post m t:=by
 obtain ⟨K,last,o,w',t'',h1,h2,h3,h4⟩:=he;refine ⟨N+K,last,o,w',t'',?_,?_,h3,h4⟩
 ·rw [Nat.add_assoc,runNT_add,h];exact h1
 ·have :=runNT_fst P N m t;rw [h] at this;rw [runN_add, <-this];exact h2
def iL (P:Program) (Post:Value->World->Prop) (dead own:Nat->Prop) (g:Goroutine) (W:World):Prop:=
 g.status= .running∧g.offers=none∧((∀b,own b->b<W.heap.size∧¬dead b)->∀W1,bZ Z0 own W W1->∀gs t sl,QF P dead gs W1 t g->Ends P Post (crowd gs W1 sl) t)
section
variable {T Sh ρ:Type} {P:Program} {S:Sys T Sh} {AI:Nat->(Nat->Option T)->Sh->Prop} {free:Sh->Prop} {rk:Nat->(Nat->Option T)->Sh->ρ} {lt:ρ->ρ->Prop} {Post:Value->World->Prop} {dead own:Nat->Prop} {g:Goroutine} {W w:World}
structure XV (P:Program) (S:Sys T Sh) (AI:Nat->(Nat->Option T)->Sh->Prop) (free:Sh->Prop) (dead own:Nat->Prop) (g:Goroutine) (w:World) (T0:T) (s0:Sh) (Ro Gl Pt O:Nat->Prop):Prop where
 qi:∀b,dead b->S.syn b∨O b
 old:∀b,O b->b<w.heap.size∧¬S.syn b∧¬own b∧¬Ro b∧¬Gl b∧¬Pt b
 syn:∀b,S.syn b->b<w.heap.size
 own':∀b,own b->b<w.heap.size∧¬S.syn b∧¬Ro b∧¬Gl b∧¬Pt b
 ro:∀b,Ro b->b<w.heap.size∧¬S.syn b
 gl:∀b,Gl b->b<w.heap.size∧¬S.syn b∧¬Ro b
 pt:∀b,Pt b->b<w.heap.size∧¬S.syn b∧¬Ro b∧¬Gl b
 zro:∀b,(S.Z 0 T0).ro b->Ro b
 zsy:∀b,(S.Z 0 T0).sy b->S.syn b∨Pt b
 zcl:∀b k,(S.Z 0 T0).cl b k->(S.Z 0 T0).sy b∧Pt b
 ai:∀n,0<n->AI n (λi=>if i=0 then some T0 else none) s0
 quit:S.quit T0=false
 deaf:S.deaf T0=0
 rep:S.Db s0 w
 j:free s0->S.J s0 Gl w
 dp:S.Dp s0 (λ_=>False) (λ_ _=>False) w
 wg:S.mo s0=none->∀b,¬Ro b∧¬Gl b∧¬Pt b
 on:On P S (At P S) 0 T0 own g w
theorem QF.open {gs:Array Goroutine} {t:Trace} (hq:QF P dead gs w t g) {T0:T} {s0:Sh} {Ro Gl Pt:Nat->Prop} (o:XV P S AI free dead own g w T0 s0 Ro Gl Pt O):
 ∃θ γ,MI P S AI free O gs w t θ s0 γ Gl (λ_=>False) (λ_ _=>False):=by
 classical
 have hlt:=(aa.1 hq.main).1;obtain ⟨who',hwho⟩:∃who':Loc->Who,who'= λl=>if dU l then (if S.syn (lb l)∨O (lb l) then .sy else if Ro (lb l) then .ro else if Gl (lb l) then .lk else if Pt (lb l)∧l= .obj (lb l) then .pt else .eZ 0) else .fr:=⟨_,rfl⟩
 have VW:∀l,dU l->S.syn (lb l)∨O (lb l)->who' l= .sy:= λl h1 h2=>by rw [hwho];simp [h1,h2]
 have wro:∀l,dU l->¬(S.syn (lb l)∨O (lb l))->Ro (lb l)->who' l= .ro:= λl h1 h2 h3=>by rw [hwho];simp [h1,h2,h3]
 have wlk:∀l,dU l->¬(S.syn (lb l)∨O (lb l))->¬Ro (lb l)->Gl (lb l)->who' l= .lk:= λl h1 h2 h3 h4=>by rw [hwho];simp [h1,h2,h3,h4]
 have wpt:∀b,¬(S.syn b∨O b)->¬Ro b->¬Gl b->Pt b->who' (.obj b)= .pt:= λb h2 h3 h4 h5=>by
  rw [hwho];have h1:dU (.obj b):=trivial;have e:lb (.obj b)=b:=rfl;simp only [h1,e,h2,h3,h4,h5,if_true,if_false,and_self]
 have XR:∀l,dU l->¬(S.syn (lb l)∨O (lb l))->¬Ro (lb l)->¬Gl (lb l)->¬(Pt (lb l)∧l= .obj (lb l))->who' l= .eZ 0:= λl h1 h2 h3 h4 h5=>by rw [hwho];simp only [h1,h2,h3,h4,h5,if_true,if_false]
 have wfr:∀l,¬dU l->who' l= .fr:= λl h1=>by rw [hwho];simp [h1]
 have q0:∀l,dU l->¬dead (lb l)->(F7 dead w.heap.size).who l= .eZ 0:= λl h1 h2=>by unfold F7;simp [h1,h2]
 have q1:∀l,dU l->dead (lb l)->(F7 dead w.heap.size).who l= .sy:= λl h1 h2=>by unfold F7;simp [h1,h2]
 have q2:∀l,¬dU l->(F7 dead w.heap.size).who l= .fr:= λl h1=>by unfold F7;simp [h1]
 obtain ⟨γ,hγ⟩:∃γ:Gh,γ= { F7 dead w.heap.size with who:=who',wg:=S.mo s0,lock:=S.dZ s0 }:=⟨_,rfl⟩;have mV:γ.who=who':=by rw [hγ]
 have hti:TI γ t:=by
  rw [hγ];refine hq.ti.ah0 (λg hg=>hg) (λl=>?_) (λ_ _ h=>h) rfl rfl _ _
  by_cases hm:dU l
  ·by_cases hd:dead (lb l)
   ·exact .inl (by rw [q1 l hm hd,VW l hm (o.qi _ hd)])
   ·by_cases h2:S.syn (lb l)∨O (lb l)
    ·exact .inr ⟨q0 l hm hd,.inr (.inr (.inl (VW l hm h2)))⟩
    by_cases h3:Ro (lb l)
    ·exact .inr ⟨q0 l hm hd,.inl (wro l hm h2 h3)⟩
    by_cases h4:Gl (lb l)
    ·exact .inr ⟨q0 l hm hd,.inr (.inl (wlk l hm h2 h3 h4))⟩
    by_cases h5:Pt (lb l)∧l= .obj (lb l)
    ·have :=wpt _ h2 h3 h4 h5.1;rw [<-h5.2] at this;exact .inr ⟨q0 l hm hd,.inr (.inr (.inr this))⟩
    ·exact .inl (by rw [XR l hm h2 h3 h4 h5,q0 l hm hd])
  ·exact .inl (by rw [wfr l hm,q2 l hm])
 have noO:∀b,own b∨Ro b∨Gl b∨Pt b->¬S.syn b->¬(S.syn b∨O b):= λb hb hs hx=>by
  rcases hx with hx|hx
  ·exact hs hx
  ·obtain ⟨_,_,a1,a2,a3,a4⟩:=o.old b hx;rcases hb with hb|hb|hb|hb
   ·exact a1 hb
   ·exact a2 hb
   ·exact a3 hb
   ·exact a4 hb
 have hR:eU γ w.heap.size 0 (S.Z 0 T0) own:=by
  refine ⟨λb hb=>⟨(o.own' b hb).1, λl h1 h2=>?_⟩, λb c hb=>⟨(o.zcl b c hb).1,?_, λa e1 e2=>?_⟩, λb hb=>⟨(o.ro b (o.zro b hb)).1, λl h1 h2=>?_⟩, λb hb=>?_⟩
  ·obtain ⟨_,a1,a2,a3,a4⟩:=o.own' b hb;rw [mV];exact XR l h1 (by rw [h2];exact noO b (.inl hb) a1) (by rw [h2];exact a2) (by rw [h2];exact a3) (by rw [h2];exact λx=>a4 x.1)
  ·obtain ⟨_,a1,a2,a3⟩:=o.pt b (o.zcl b c hb).2;rw [mV];exact wpt b (noO b (.inr (.inr (.inr (o.zcl b c hb).2))) a1) a2 a3 (o.zcl b c hb).2
  ·obtain ⟨_,a1,a2,a3⟩:=o.pt b (o.zcl b c hb).2;rw [mV];exact XR _ trivial (by show ¬(S.syn a.block∨O a.block);rw [e1];exact noO b (.inr (.inr (.inr (o.zcl b c hb).2))) a1) (by show ¬Ro a.block;rw [e1];exact a2) (by show ¬Gl a.block;rw [e1];exact a3) (λx=>by cases x.2)
  ·obtain ⟨_,a1⟩:=o.ro b (o.zro b hb);rw [mV];exact wro l h1 (by rw [h2];exact noO b (.inr (.inl (o.zro b hb))) a1) (by rw [h2];exact o.zro b hb)
  ·rcases o.zsy b hb with h1|h1
   ·exact ⟨o.syn b h1,.inl (by rw [mV];exact VW (.obj b) trivial (.inl h1))⟩
   ·obtain ⟨a0,a1,a2,a3⟩:=o.pt b h1;exact ⟨a0,.inr (by rw [mV];exact wpt b (noO b (.inr (.inr (.inr h1))) a1) a2 a3 h1)⟩
 obtain ⟨Vd,Za,Tv,Tw⟩:=sU (s':=s0) (t':=t) o.quit o.on (by rw [hq.d0,o.deaf]) (γ':=γ) (by rw [hγ];rfl) (λh0=>absurd rfl h0) hR;rw [if_neg (by rw [o.quit];simp)] at Tv
 let θ:Nat->TS T:= λi=>if i=0 then Vd else if h:∃g' k,gs[i]?=some g'∧QuitsD P k (Deaf t i) g' then .lv h.choose_spec.choose (Deaf t i) else .lv 0 0
 have ap9:∀i g',i≠0->gs[i]?=some g'->∃k,θ i= .lv k (Deaf t i)∧QuitsD P k (Deaf t i) g':=by
  intro i g' h0 hg;obtain ⟨k,hk⟩:=hq.lv i g' h0 hg;have h:∃g' k,gs[i]?=some g'∧QuitsD P k (Deaf t i) g':=⟨g',k,hg,hk⟩
  refine ⟨h.choose_spec.choose,?_,?_⟩
  ·show (if i=0 then Vd else if h:∃g' k,gs[i]?=some g'∧QuitsD P k (Deaf t i) g' then TS.lv h.choose_spec.choose (Deaf t i) else .lv 0 0)=_;rw [if_neg h0,dif_pos h]
  ·have h3:=h.choose_spec.choose_spec;have e:g'=h.choose:=aD (hg.symm.trans h3.1);rw [e];exact h3.2
 have hstops:stops θ= λi=>if i=0 then some T0 else none:=by
  funext i;unfold stops
  by_cases h0:i=0
  ·subst h0;exact Tv
  ·show (if i=0 then Vd else if h:∃g' k,gs[i]?=some g'∧QuitsD P k (Deaf t i) g' then TS.lv h.choose_spec.choose (Deaf t i) else .lv 0 0).stop?=_;rw [if_neg h0,if_neg h0];split<;>rfl
 refine ⟨θ,γ,⟨λi gi hi=>?_,Tw,hlt,by rw [hstops];exact o.ai _ hlt,o.rep,hti,by rw [hγ];rfl,hq.nums, λb hb=>⟨hb.elim (o.syn b) λx=>(o.old b x).1, λl h1 h2=>by rw [mV];exact VW l h1 (by rw [h2];exact hb)⟩, λl hl=>by rw [mV];exact wfr l hl, λl hl=>?_, λi hi=>?_, λhn l hl hs=>?_,by rw [hγ],by rw [hγ], λhf=>⟨o.j hf, λb hb=>⟨(o.gl b hb).1, λl h1 h2=>?_⟩⟩,o.dp, λb hb=>hb.elim, λb k hb=>hb.elim⟩⟩
 ·by_cases h0:i=0
  ·subst h0;rw [hq.main] at hi;cases hi;exact Za
  ·obtain ⟨k,h1,h2⟩:=ap9 i gi h0 hi;rw [h1];exact ⟨h2,rfl,h0, λha=>by rw [hγ] at ha;exact ha⟩
 ·rw [mV]
  by_cases h2:S.syn (lb l)∨O (lb l)
  ·rw [VW l hl h2];exact ⟨by simp, λ_=>h2⟩
  by_cases h3:Ro (lb l)
  ·rw [wro l hl h2 h3];exact ⟨by simp,by simp⟩
  by_cases h4:Gl (lb l)
  ·rw [wlk l hl h2 h3 h4];exact ⟨by simp,by simp⟩
  by_cases h5:Pt (lb l)∧l= .obj (lb l)
  ·have :=wpt _ h2 h3 h4 h5.1;rw [<-h5.2] at this;rw [this];exact ⟨by simp,by simp⟩
  ·rw [XR l hl h2 h3 h4 h5];exact ⟨by simp,by simp⟩
 ·rw [hγ] at hi;exact hi.elim
 ·obtain ⟨a1,a2,a3⟩:=o.wg hn (lb l);rw [mV];exact XR l hl hs a1 a2 (λx=>a3 x.1)
 ·obtain ⟨_,a1,a2⟩:=o.gl b hb;rw [mV];exact wlk l h1 (by rw [h2];exact noO b (.inr (.inr (.inl hb))) a1) (by rw [h2];exact a2) (by rw [h2];exact hb)
theorem MI.close {gs:Array Goroutine} {t:Trace} {θ:Nat->TS T} {s:Sh} {γ:Gh} {G D:Nat->Prop} {Dc:Nat->Nat->Prop} (h:MI P S AI free O gs w t θ s γ G D Dc)
 {x:Tk T} (h0:gs[0]?=some x.g) (hx:θ 0= .eZ x) (hl:S.dZ s=none) (hw:S.mo s=none) (hd:S.deaf x.Tt=0) (hj:∀j,j<gs.size->j≠0->stops θ j=none):
 QF P (λb=>S.syn b∨O b) gs w t x.g∧∀b,x.own b->b<w.heap.size∧¬(S.syn b∨O b):=by
 classical
 have h1:=h.one 0 x.g h0;rw [hx] at h1;obtain ⟨_,_,_,hDeaf,mP,_,di⟩:=h1
 have lvs:∀i g',i≠0->gs[i]?=some g'->∃k d,θ i= .lv k d∧QuitsD P k d g'∧Deaf t i=d∧¬γ.act i:=by
  intro i g' hi hg;have h1:=h.one i g' hg;cases wE:θ i with
  |eZ y=>
   have :=hj i (aa.1 hg).1 hi;unfold stops at this;rw [wE] at this;cases this
  |lv k d=>rw [wE] at h1;exact ⟨k,d,rfl,h1.1,h1.2.1,h1.2.2.2⟩
 have hno:∀i,i≠0->¬γ.act i:= λi hi ha=>by
  have hlt:=h.AX i ha;obtain ⟨_,_,_,_,_,hn⟩:=lvs i gs[i] hi (aH hlt);exact hn ha
 have hwho:γ.who=(F7 (λb=>S.syn b∨O b) w.heap.size).who:=by
  funext l
  by_cases hm:dU l
  ·by_cases hs:S.syn (lb l)∨O (lb l)
   ·rw [(h.syn _ hs).2 l hm rfl];unfold F7;simp [hm,hs]
   ·rw [h.jn hw l hm hs];unfold F7;simp [hm,hs]
  ·rw [h.nomem l hm];unfold F7;simp [hm]
 refine ⟨⟨h0, λi g' hi hg=>?_,by rw [hDeaf,hd],h.nums, λb hb=>(h.syn b hb).1,?_⟩, λb hb=>⟨(di.own b hb).1, λhs=>?_⟩⟩
 ·obtain ⟨k,d,_,h2,h3,_⟩:=lvs i g' hi hg;exact ⟨k,by rw [h3];exact h2⟩
 ·have hti:=h.ti;have hnw:=hti.new;rw [h.B] at hnw;refine ⟨λl i hl=>hti.eZ l i (by rw [hwho];exact hl), λl i hl hlv=>hti.ro l i (by rw [hwho];exact hl) (by have hlv:i=0:=hlv;rw [hlv];exact mP), λi z op hs hz hop=>?_, λl i z hl hz e=>?_,hnw, λi op hi hg hs=>?_,hti.nr,hti.nl⟩
  ·refine (hti.sy i z op (by rw [hwho];exact hs) hz hop).imp id λh1 k hk=>?_
   have hk:k=0:=hk;rw [hk];exact h1 0 mP
  ·exfalso;have hl:(F7 (λb=>S.syn b∨O b) w.heap.size).who l= .lk:=hl;unfold F7 at hl;dsimp only at hl;split at hl
   ·split at hl<;>cases hl
   ·cases hl
  ·have hs':Says γ t i:=hs.imp id λ⟨z,hz,hn⟩=>⟨z,hz,by rw [hwho];exact hn⟩
   rcases hti.ho i op hi hg hs' with h2|h2|⟨a0,h2,_⟩
   ·exact absurd h2 (hno _ hg)
   ·exact .inr (.inl h2)
   ·rw [h.mo,hw] at h2;cases h2
 ·have :=((h.syn b hs).2 (.obj b) trivial rfl).symm.trans (di.mq hb);cases this
end
end Par
end
section
namespace Par
open Go Go.Conc Go.ConcM Go.ConcN
section
variable {P:Program} {Post:Value->World->Prop} {dead own:Nat->Prop} {g:Goroutine} {W w:World}
theorem iL.rely {W1:World} (h:iL P Post dead own g W) (hlt:∀b,own b->b<W.heap.size) (hr:bZ Z0 own W W1):iL P Post dead own g W1:=
 ⟨h.1,h.2.1, λho W2 h2=>h.2.2 (λb hb=>⟨hlt b hb,(ho b hb).2⟩) W2 (hr.trans h2)⟩
theorem iL.phase {T Sh ρ:Type} {S:Sys T Sh} {AI:Nat->(Nat->Option T)->Sh->Prop} {free:Sh->Prop} {rk:Nat->(Nat->Option T)->Sh->ρ} {lt:ρ->ρ->Prop} (ok:sP S AI free rk lt)
 (fin:∀{n φ s Tt},AI n φ s->0<n->φ 0=some Tt->S.ret Tt=true->S.dZ s=none∧S.mo s=none∧S.deaf Tt=0∧∀j,j<n->j≠0->φ j=none)
 (hg:g.status= .running) (hoff:g.offers=none)
 (h:∀W1,bZ Z0 own W W1->(∀b,dead b->b<W1.heap.size)->(∀b,own b->b<W1.heap.size∧¬dead b)->∃cK T0 s0 Ro Gl Pt O,XV P S AI free dead cK g W1 T0 s0 Ro Gl Pt O∧
   ∀Tt own g W,S.ret Tt=true->S.Anch Tt own g W->(∀b,own b->b<W.heap.size∧¬(S.syn b∨O b))->iL P Post (λb=>S.syn b∨O b) own g W):iL P Post dead own g W:=by
 refine ⟨hg,hoff, λho W1 hr gs t sl hq=>?_⟩;obtain ⟨cK,T0,s0,Ro,Gl,Pt,O,o,hk⟩:=h W1 hr hq.dlt λb hb=>⟨ak (ho b hb).1 hr.size,(ho b hb).2⟩
 obtain ⟨θ,γ,hm⟩:=hq.open o;obtain ⟨N,gs',w',sl',t',Kr,s',γ',G',D',FQ,x,hrun,hm',hx,hgx,hl,hret⟩:=MI.run (sl:=sl) ok _ rfl hm;have hφ:stops Kr 0=some x.Tt:=by unfold stops;rw [hx];rfl
 obtain ⟨f1,f2,f3,f4⟩:=fin hm'.ai hm'.pos hφ hret;obtain ⟨hq',hown⟩:=hm'.close hgx hx f1 f2 f3 f4;have h1:=hm'.one 0 x.g hgx;rw [hx] at h1;obtain ⟨_,Oi,EO,_⟩:=h1;rw [hl] at Oi;have Zc:=(Oi w' EO).law;have hA:=Zc.2.2 s' hm'.rep (ok.fits hm'.ai hm'.pos hφ).1;rw [if_pos hret] at hA;exact Ends.after hrun ((hk _ _ _ _ hret hA hown).2.2 hown w' (bZ.refl _) gs' t' sl' hq')
def quiet (dead:Nat->Prop) (X:(Nat->Prop)->Goroutine->World->Prop):Sys Unit Unit where
 Db:= λ_ _=>True
 syn:=dead
 dZ:= λ_=>none
 mo:= λ_=>none
 mv:= λ_ _ _ _ _=>False
 sp:= λ_ _ _ _ _=>False
 blk:= λ_ _=>False
 wakes:= λ_=>false
 kind:= λ_=>.disable
 fork:= λ_=>false
 ret:= λ_=>true
 quit:= λ_=>false
 deaf:= λ_=>0
 past:= λ_=>false
 Z:= λ_ _=>Z0
 J:= λ_ _ _=>True
 Dp:= λ_ _ _ _=>True
 fits:= λ_ _ _=>True
 Anch:= λ_=>X
def VX (n:Nat) (φ:Nat->Option Unit) (_:Unit):Prop:=0<n∧φ= λi=>if i=0 then some () else none
theorem VY (dead:Nat->Prop) (X:(Nat->Prop)->Goroutine->World->Prop):sP (quiet dead X) VX (λ_=>False) (λ_ _ _=>(0:Nat)) Nat.lt where
 wf:=Nat.lt_wfRel.wf
 fits:= λ{n φ s i Tt} h hi hφ=>by
  refine ⟨trivial,rfl, λh=>(by cases h), λ_=>?_⟩;obtain ⟨_,rfl⟩:=h;dsimp only at hφ;split at hφ
  ·assumption
  ·cases hφ
 move:= λ_ _ _ _ _ _ h=>h.elim
 spawn:= λ_ _ _ h=>h.elim
 MO:= λ_ _ _ h=>h.elim
 stay:= λ_ _ _ _ _ h=>h.elim (λh=>h.elim) (λ⟨_,h⟩=>h.elim)
 AU:= λ_ h=>by cases h
 iI:= λ_ _ _ h=>h.elim
 plain:= λ_ _ _ h=>h.elim
 sN:= λ_ _ _ h=>h.elim
 sO:= λ_ _ _ h=>h.elim
 done:= λ_ _ _ h=>h.elim
 join:= λ_ _ _ h=>h.elim
 joined:= λh _ j _ hj=>by obtain ⟨_,rfl⟩:=h;exact if_neg hj
 quits:= λ_ _ _ h=>h.elim
 IX:= λ_ _ _=>⟨λh=>(by cases h), λh=>(by cases h)⟩
 alive:= λh=>by obtain ⟨h1,rfl⟩:=h;exact ⟨0,(),h1,rfl, λh=>h⟩
 MP:= λ_ _ _ h=>h
 GK:= λ_ _ _ _=>trivial
 ym:= λ_ _ _ _ _=>trivial
 xO:= λ_ _ _ _ _ _=>trivial
 AV:= λ_ _ _ _ _ _ _ _=>trivial
theorem iL.walk (h:Gw P true Z0 (λown g W=>iL P Post dead own g W) own g W) (hg:g.status= .running) (hoff:g.offers=none):iL P Post dead own g W:=by
 refine iL.phase (S:=quiet dead λown g W=>iL P Post dead own g W) (VY dead _) (λ{n φ s Tt} h hn h0 hr=>⟨rfl,rfl,rfl, λj _ hj=>by obtain ⟨_,rfl⟩:=h;exact if_neg hj⟩) hg hoff (λW1 hr hd ho=>?_);have eD:(λb=>(quiet dead λown g W=>iL P Post dead own g W).syn b∨False)=dead:=funext λb=>propext ⟨λh=>h.elim id False.elim,.inl⟩
 refine ⟨own,(),(), λ_=>False, λ_=>False, λ_=>False, λ_=>False,⟨λ_ h=>.inl h, λ_ h=>False.elim h,hd, λb hb=>⟨(ho b hb).1,(ho b hb).2, λh=>h, λh=>h, λh=>h⟩, λ_ h=>h.elim, λ_ h=>h.elim, λ_ h=>h.elim, λ_ h=>h.elim, λ_ h=>h.elim, λ_ _ h=>h.elim, λn hn=>⟨hn,rfl⟩,rfl,rfl,trivial, λh=>h.elim,trivial, λ_ _=>⟨λh=>h, λh=>h, λh=>h⟩,?_⟩, λ_ _ _ _ _ h _=>by rw [eD];exact h⟩;unfold On;rw [if_neg (by show ¬(false=true);simp)];refine Gw.mono (λown g W hl=>?_) (h.rely hr);refine At.intro (X:= λi _ own g W=>i=0∧iL P Post dead own g W) (λi Tt own g W hx=>?_) ⟨rfl,hl⟩;refine ⟨hx.2.1, λ_=>hx.2.2.1, λs _ _=>?_⟩;exact (if_pos (c:=(quiet dead λown g W=>iL P Post dead own g W).ret Tt=true) rfl).mpr hx.2
theorem P8 {t u:Trace} {B:Nat} (h:TI (F7 dead B) t) (hu:∀op∈u,op.g=0) (hok:∀op∈u,∀x,op.act.touch?=some x->OkT (F7 dead B).who 0 x∧(dU x.loc->lb x.loc<B)) (hr:∀op∈u,∀a,op.act≠ .mark (.release a)):TI (F7 dead B) (t++u):=
 TI.app (γ:=F7 dead B) (B':=B) h (aj _) rfl hu hok (.inl rfl) hr
theorem QF.ends (hstep:∀W1,bZ Z0 own W W1->∃v W2 es,stepG P true g W1= .ended (.done v) W2 es∧(∀e∈es,PI Z0 own e)∧Post v W2) (hg:g.status= .running):∀(M:Nat) (q:Nat->Nat) {gs:Array Goroutine} {w:World} {sl:Option (Nat×Nat)} {t:Trace},sm gs.size q<M->
 bZ Z0 own W w->(∀b,own b->b<w.heap.size∧¬dead b)->QF P dead gs w t g->(∀i g',i≠0->gs[i]?=some g'->QuitsD P (q i) (Deaf t i) g')->Ends P Post (crowd gs w sl) t:=by
 intro M
 induction M with
 |zero=>intro q gs w sl t hM;omega
 |succ M ih=>
  intro q gs w sl t hM hr ho hq hlv;have hlt:=(aa.1 hq.main).1
  have haw:∀g∈gs,awake g:=by
   intro g' hg';obtain ⟨i,hi,rfl⟩:=Array.mem_iff_getElem.1 hg'
   by_cases h0:i=0
   ·subst h0;have :gs[0]=g:=by simpa [aH hi] using hq.main
    rw [this];intro t ht;rw [hg] at ht;cases ht
   ·rcases (hlv i _ h0 (aH hi)).status with e|e<;>intro t ht<;>rw [e] at ht<;>cases ht
  obtain ⟨i,gi,d,sl',hi,hgi,hst⟩:=crowd_pick (P:=P) (w:=w) (sl:=sl) haw ⟨0,g,hq.main,hg⟩;have hrd:bZ Z0 own W (w.at d):=hr.trans (Oh w d)
  by_cases h0:i=0
  ·subst h0;obtain rfl:gi=g:=by rw [hq.main] at hi;exact (aD hi).symm
   obtain ⟨v,W2,es,hend,hes,hpost⟩:=hstep (w.at d) hrd;have hrunT:=runT_many_ended (P:=P) (sl:=sl') (i:=0) hi (show stepG P (0==0) gi (w.at d)=_ from hend);have hs:=hst.trans hrunT
   have hti:TI (F7 dead w.heap.size) (t++MemOp.ofEvents 0 gi.frame.fn gi.frame.place es):=by
    refine P8 hq.ti (λop hop=>by obtain ⟨e,_,rfl⟩:=mem_ofEvents hop;rfl) (λop hop x hx=>?_) (λop hop a=>?_)
    ·obtain ⟨e,he,rfl⟩:=mem_ofEvents hop;obtain ⟨_,hev⟩:=hes e he;obtain ⟨loc,wr,sy⟩:=e;have q0:∀l,dU l->¬dead (lb l)->(F7 dead w.heap.size).who l= .eZ 0:= λl h1 h2=>by unfold F7;simp [h1,h2]
     cases loc with
     |cell a=>
      obtain ⟨hs,hor⟩:=hev;have hs:sy=false:=hs;subst hs
      have hx':x=⟨.cell a,wr,.plain⟩:=by
       have :(MemAct.ofEvent ⟨.cell a,wr,false⟩).touch?=some ⟨.cell a,wr,.plain⟩:=by cases wr<;>rfl
       rw [this] at hx;exact (aD hx).symm
      subst hx';have ho':own a.block:=hor.elim (λh=>h) λh=>h.elim (λh=>h.1.elim) λh=>h.elim
      exact ⟨.inl (q0 _ trivial (ho _ ho').2), λ_=>(ho _ ho').1⟩
     |obj r=>
      obtain ⟨hs,hor⟩:=hev;have hs:sy=false:=hs;subst hs
      have hx':x=⟨.obj r,wr,.plain⟩:=by
       have :(MemAct.ofEvent ⟨.obj r,wr,false⟩).touch?=some ⟨.obj r,wr,.plain⟩:=by cases wr<;>rfl
       rw [this] at hx;exact (aD hx).symm
      subst hx';exact ⟨.inl (q0 _ trivial (ho _ hor).2), λ_=>(ho _ hor).1⟩
     |mark m=>
      have hm:m= .noRoom:=hev;subst hm;exfalso;have :(MemAct.ofEvent ⟨.mark .noRoom,wr,sy⟩).touch?=none:=by cases wr<;>cases sy<;>rfl
      rw [this] at hx;cases hx
     |output=>exact hev.elim
     |goroutines=>exact hev.elim
    ·obtain ⟨e',he,rfl⟩:=mem_ofEvents hop;obtain ⟨_,hev⟩:=hes e' he;obtain ⟨loc,wr,sy⟩:=e';intro e;cases loc with
     |mark m=>
      have hm:m= .noRoom:=hev;subst hm;have :MemAct.ofEvent ⟨.mark .noRoom,wr,sy⟩= .mark .noRoom:=by cases wr<;>cases sy<;>rfl
      have e:MemAct.ofEvent ⟨.mark .noRoom,wr,sy⟩= .mark (.release a):=e;rw [this] at e;cases e
     |cell _=>
      have e:MemAct.ofEvent ⟨.cell _,wr,sy⟩= .mark (.release a):=e;cases wr<;>cases sy<;>cases e
     |obj _=>
      have e:MemAct.ofEvent ⟨.obj _,wr,sy⟩= .mark (.release a):=e;cases wr<;>cases sy<;>cases e
     |output=>exact hev.elim
     |goroutines=>exact hev.elim
   refine ⟨0,crowd gs w sl,.done v,W2,_,by simp only [runNT,hs],rfl,?_,v,rfl,hpost,hti.nr,handed λi op hi hg hc=>?_,⟨λx hx=>?_,rfl⟩, λj x hx hj=>?_⟩
   ·simp only [step,hs]
   ·rcases hti.ho i op hi hg (.inl hc) with h1|h1|⟨a0,h1,_⟩
    ·exact h1.elim
    ·exact h1
    ·cases h1
   ·obtain ⟨j,hj⟩:=List.mem_iff_getElem?.1 hx;rw [List.getElem?_drop] at hj;exact ⟨_,(hlv (1+j) x (by omega) (by simpa [crowd] using hj)).leaves⟩
   ·have hqj:=hlv j x (by omega) hx;refine ⟨q j,?_⟩
    have e:(t++MemOp.ofEvents 0 gi.frame.fn gi.frame.place es).deaf j (t++MemOp.ofEvents 0 gi.frame.fn gi.frame.place es).size=Deaf t j:=
     Deaf_other t (g:=j) (g':=0) (by omega) _ (λop hop=>by obtain ⟨e,_,rfl⟩:=mem_ofEvents hop;rfl)
    rw [e];exact hqj.hears _
  ·have hqi:=hlv i gi h0 hi;have hi0:(i==0)=false:=by simpa using h0
   have Zd:=(aa.1 hi).1;cases hk:q i with
   |zero=>rw [hk] at hqi;rw [hqi.1] at hgi;cases hgi
   |succ k=>
    rw [hk] at hqi;rcases hqi with ⟨hf,_⟩|⟨_,g',es,hm,hstp,hq'⟩
    ·rw [hf] at hgi;cases hgi
    have hdec:sm gs.size (upd q i k)<sm gs.size q:=Oj Zd (by rw [upd_same,hk];omega) λj _=>by
     by_cases hj:j=i
     ·subst hj;rw [upd_same,hk];omega
     ·rw [upd_ne hj];exact aj _
    have hrunT:=runT_crowd_go (P:=P) (sl:=sl') (i:=i) hi (by rw [hi0];exact hstp (w.at d));have hsz:((gs.map (woken P gi g' (w.at d))).setIfInBounds i g').size=gs.size:=by simp
    have ah7:∀j x,j≠0->((gs.map (woken P gi g' (w.at d))).setIfInBounds i g')[j]?=some x->QuitsD P (upd q i k j) (Deaf (t++MemOp.ofEvents i gi.frame.fn gi.frame.place es) j) x:=by
     intro j x hj hx
     by_cases hji:i=j
     ·subst hji;rw [Array.getElem?_setIfInBounds_self_of_lt (by simpa using Zd)] at hx;obtain rfl:=aD hx;rw [upd_same,Deaf_own];exact hq'
     ·rw [Array.getElem?_setIfInBounds_ne hji,Array.getElem?_map] at hx;obtain ⟨y,hy,rfl⟩:=Option.map_eq_some_iff.1 hx;have hqj:=hlv j y hj hy;rw [woken_quitsD hqj,upd_ne (Ne.symm hji),Deaf_other t hji _ (λop hop=>by obtain ⟨e,_,rfl⟩:=mem_ofEvents hop;rfl)];exact hqj
    have h:=ih (upd q i k) (gs:=(gs.map (woken P gi g' (w.at d))).setIfInBounds i g') (w:=w.at d) (sl:=sl') (t:=t++MemOp.ofEvents i gi.frame.fn gi.frame.place es) (by rw [hsz];omega) hrd ho
     ⟨by
       rw [Array.getElem?_setIfInBounds_ne h0,Array.getElem?_map,hq.main];simp only [Option.map_some,Option.some.injEq];unfold woken;split
       ·exact again_running _ (.inl hg)
       ·rfl, λj x hj hx=>⟨_,ah7 j x hj hx⟩,by rw [Deaf_other t h0 _ (λop hop=>by obtain ⟨e,_,rfl⟩:=mem_ofEvents hop;rfl)];exact hq.d0,by rw [hsz];exact xQ hq.nums Zd _ _ _,hq.dlt,
       hq.ti.MN (λop hop=>by obtain ⟨e,he,rfl⟩:=mem_ofEvents hop;exact touch_mute (hm e he)) (λop hop a=>by obtain ⟨e,he,rfl⟩:=mem_ofEvents hop;exact AZ (hm e he) a)⟩ ah7
    exact Ends.after (N:=1) (by simp only [runNT];rw [hst,hrunT]) h
theorem iL.ret (hstep:∀W1,bZ Z0 own W W1->∃v W2 es,stepG P true g W1= .ended (.done v) W2 es∧(∀e∈es,PI Z0 own e)∧Post v W2) (hg:g.status= .running) (hoff:g.offers=none):iL P Post dead own g W:=by
 classical
 refine ⟨hg,hoff, λho W1 hr gs t sl hq=>?_⟩;refine QF.ends hstep hg (_+1) (λi=>if h:∃k g',i≠0∧gs[i]?=some g'∧QuitsD P k (Deaf t i) g' then h.choose else 0) (Nat.lt_succ_self _) hr (λb hb=>⟨ak (ho b hb).1 hr.size,(ho b hb).2⟩) hq λi g' h0 hi=>?_
 obtain ⟨k,hk⟩:=hq.lv i g' h0 hi;have h:∃k g',i≠0∧gs[i]?=some g'∧QuitsD P k (Deaf t i) g':=⟨k,g',h0,hi,hk⟩
 rw [dif_pos h];obtain ⟨g1,_,h1,h2⟩:=h.choose_spec;rw [hi] at h1;cases h1;exact h2
theorem iL.start (h:iL P Post (λ_=>False) own g W) (ho:∀b,own b->b<W.heap.size):Ends P Post (solo g W) #[]:=by
 rw [solo_eq_crowd];refine h.2.2 (λb hb=>⟨ho b hb, λh=>h⟩) W (bZ.refl _) #[g] #[] none ⟨rfl, λi g' hi hg=>?_,rfl, λop hop=>by simp at hop, λ_ h=>h.elim,?_⟩
 ·have :=(aa.1 hg).1;simp at this;exact absurd this hi
 ·have no:∀{i x},touchAt #[] i=some x->False:= λ{i x} h=>by simp [touchAt,Trace.act?] at h
  exact ⟨λl g _ i x hx=>(no hx).elim, λl g _ _ i x hx=>(no hx).elim, λi x op _ hx=>(no hx).elim, λl i x _ hx=>(no hx).elim, λi x hx=>(no hx).elim, λi op hi=>by simp at hi, λsaid=>past_nil.clean said, λa i=>by simp [Trace.act?]⟩
end
end Par
end
section
namespace Par
open Go Go.Conc Go.ConcM Go.ConcN
structure Body (B Sb:Type) where
 dZ:Option Addr
 rep:Sb->World->Prop
 J:Sb->(Nat->Prop)->World->Prop
 free:Sb->Prop
 init:Nat->Option B->Prop
 mv:Nat->B->Sb->Option B->Sb->Prop
 blk:B->Sb->Prop
 wakes:B->Bool
 kind:B->Kind
 deaf:B->Nat
 fits:Nat->B->Sb->Prop
 fin:Sb->Prop
inductive jV where
 |P9|MR|LB|MU|EW|kd|w1 (b:Nat)|w2 (v:Nat)|Vf|w3|w4|ke|aq|fin
inductive qZ where
 |wr|k1|d1|d2|d3|d4|qt
inductive FT (B:Type) where
 |st (pc:jV) (j:Nat)
 |bd (k:Nat) (b:B)
 |wg (k:Nat) (pc:qZ)
structure sV (Sb:Type) where
 v:Nat
 wt:Nat
 sm:Nat
 jn:Bool
 dn:Nat->Bool
 b:Sb
structure EX (B Sb:Type) where
 body:Body B Sb
 N:Nat
 ty:TypeId
 Wg:Nat
 syn:Nat->Prop
 ro:Nat->Prop
 pt:Nat->Prop
 cl:Nat->Nat->Nat->Prop
 Dp:(Nat->Bool)->(Nat->Prop)->(Nat->Nat->Prop)->World->Prop
 Anch:(Nat->Prop)->Goroutine->World->Prop
section
variable {B Sb:Type} (C:EX B Sb)
def jV.deaf:jV->Nat
 | .MR| .LB| .MU| .w1 _| .w2 _| .Vf| .w3| .w4| .ke=>1
 |_=>0
def jV.kind:jV->Kind
 | .P9| .kd=>.disable
 | .MR| .w1 _| .w2 _| .w4=>.atomic
 | .LB| .Vf=>.said
 | .MU| .ke=>.enable
 | .w3=>.sem
 | .aq=>.join
 | .EW| .fin=>.disable
def qZ.deaf:qZ->Nat
 | .wr| .k1=>0
 |_=>1
def qZ.zD:qZ->Bool
 | .qt=>true
 |_=>false
def qZ.kind:qZ->Kind
 | .wr=>.done
 | .k1=>.disable
 | .d4=>.sem
 |_=>.atomic
def eO (j:Nat):jV:=if j<C.N then .P9 else .kd
def EX.Zs (j:Nat):eG:={ ro:=C.ro,sy:= λb=>C.syn b∨C.pt b,cl:= λb i=>∃k,j<=k∧k<C.N∧C.cl k b i }
def EX.Zw (k:Nat):eG:={ ro:=C.ro,sy:= λb=>C.syn b∨C.pt b,cl:=C.cl k }
def EX.Zp:eG:={ ro:=C.ro,sy:=C.syn,cl:= λ_ _=>False,mute:=True }
inductive Du:jV->Nat->sV Sb->jV->sV Sb->Prop
 |P9 {j s}:Du .P9 j s .MR s
 |MR {j s}:Du .MR j s (if s.v=0 then .LB else .MU) { s with v:=s.v+1 }
 |LB {j s}:Du .LB j s .MU s
 |MU {j s}:Du .MU j s .EW s
 |kd {j s}:Du .kd j s (.w1 j) s
 |w1 {b j s}:Du (.w1 b) j s (if s.v=0 then .ke else .w2 s.v) s
 |XW {j s v} (h:s.v=v):Du (.w2 v) j s .Vf { s with wt:=1 }
 |Tx {j s v} (h:s.v≠v):Du (.w2 v) j s (.w1 (v - 1)) s
 |Vf {j s}:Du .Vf j s .w3 s
 |w3 {j s}:Du .w3 j s .w4 { s with sm:=s.sm - 1 }
 |w4 {j s}:Du .w4 j s .ke s
 |ke {j s}:Du .ke j s .aq s
 |aq {j s}:Du .aq j s .fin { s with jn:=true }
def Qa (f:Nat->Bool) (k:Nat):Nat->Bool:= λl=>if l=k then true else f l
inductive Ty (k:Nat):qZ->sV Sb->qZ->sV Sb->Prop
 |wr {s}:Ty k .wr s .k1 { s with dn:=Qa s.dn k }
 |k1 {s}:Ty k .k1 s .d1 s
 |d1 {s}:Ty k .d1 s (if s.v=1∧s.wt=1 then .d2 else .qt) { s with v:=s.v - 1 }
 |d2 {s}:Ty k .d2 s .d3 s
 |d3 {s}:Ty k .d3 s .d4 { s with wt:=0 }
 |d4 {s}:Ty k .d4 s .qt { s with sm:=s.sm+1 }
inductive Qb:Nat->FT B->sV Sb->FT B->sV Sb->Prop
 |st {i pc j s pc' s'} (h:Du pc j s pc' s'):Qb i (.st pc j) s (.st pc' j) s'
 |bd {i k b s b' sb'} (h:C.body.mv k b s.b (some b') sb'):Qb i (.bd k b) s (.bd k b') { s with b:=sb' }
 |yS {i k b s sb'} (h:C.body.mv k b s.b none sb'):Qb i (.bd k b) s (.wg k .wr) { s with b:=sb' }
 |wg {i k pc s pc' s'} (h:Ty k pc s pc' s'):Qb i (.wg k pc) s (.wg k pc') s'
inductive FSp:FT B->sV Sb->FT B->FT B->sV Sb->Prop
 |bd {j s b} (h:C.body.init j (some b)):FSp (.st .EW j) s (.st (eO C (j+1)) (j+1)) (.bd j b) s
 |wg {j s} (h:C.body.init j none):FSp (.st .EW j) s (.st (eO C (j+1)) (j+1)) (.wg j .wr) s
def GX:FT B->sV Sb->Prop
 | .st pc _,s=>match pc with
   | .MR=>s.v<=C.N∧s.wt=0∧s.sm=0
   | .w1 b=>s.v<=b∧s.v<=C.N∧s.wt=0∧s.sm=0
   | .w2 v=>s.v<=v∧0<v∧s.v<=C.N∧s.wt=0∧s.sm=0
   | .w3=>s.sm<=1∧s.v<=C.N∧s.wt<=1∧(s.sm=1->s.v=0∧s.wt=0)
   | .w4| .ke=>s.v=0∧s.wt=0∧s.sm=0
   | .aq=>(∀k,k<C.N->s.dn k=true)∧C.body.fin s.b∧s.jn=false
   |_=>True
 | .bd k b,s=>C.body.fits k b s.b∧s.jn=false
 | .wg _ pc,s=>match pc with
   | .wr=>s.jn=false
   | .d1=>1<=s.v∧s.v<=C.N∧s.wt<=1∧s.sm=0
   | .d2| .d3=>s.v=0∧s.wt=1∧s.sm=0
   | .d4=>s.v=0∧s.wt=0∧s.sm=0
   |_=>True
def EX.sys:Sys (FT B) (sV Sb) where
 Db:= λs W=>ConcR.WgAt C.ty C.Wg W ((s.v:Int)*ConcR.KK+s.wt) s.sm∧C.body.rep s.b W
 syn:=C.syn
 dZ:= λs=>if s.jn then none else C.body.dZ
 mo:= λs=>if s.jn then none else some (ConcR.stA C.Wg)
 mv:=Qb C
 sp:=FSp C
 blk:= λT s=>match T with
  | .st .w3 _=>s.sm=0
  | .bd _ b=>C.body.blk b s.b
  |_=>False
 wakes:= λT=>match T with
  | .bd _ b=>C.body.wakes b
  | .wg _ .d4=>true
  |_=>false
 kind:= λT=>match T with
  | .st pc _=>pc.kind
  | .bd _ b=>C.body.kind b
  | .wg _ pc=>pc.kind
 fork:= λT=>match T with
  | .st .EW _=>true
  |_=>false
 ret:= λT=>match T with
  | .st .fin _=>true
  |_=>false
 quit:= λT=>match T with
  | .wg _ p=>p.zD
  |_=>false
 deaf:= λT=>match T with
  | .st pc _=>pc.deaf
  | .bd _ b=>C.body.deaf b
  | .wg _ pc=>pc.deaf
 past:= λT=>match T with
  | .wg _ .wr=>false
  | .wg _ _=>true
  |_=>false
 Z:= λ_ T=>match T with
  | .st .fin _=>Z0
  | .st _ j=>C.Zs j
  | .bd k _=>C.Zw k
  | .wg k .wr=>C.Zw k
  | .wg _ _=>C.Zp
 J:= λs=>C.body.J s.b
 Dp:= λs D Dc W=>s.jn=true∨C.Dp s.dn D Dc W
 fits:= λ_ T s=>GX C T s
 Anch:= λ_=>C.Anch
structure lT {B Sb ρ:Type} (b:Body B Sb) (N:Nat) (syn:Nat->Prop) (inv:Nat->(Nat->Option B)->Sb->Prop) (rb:(Nat->Option B)->Sb->ρ) (lt:ρ->ρ->Prop):Prop where
 wf:WellFounded lt
 spawn:∀{j ψ s o},inv j ψ s->j<N->ψ j=none->b.init j o->inv (j+1) (upd ψ j o) s
 move:∀{j ψ s k x o s'},inv j ψ s->k<j->ψ k=some x->¬b.blk x s->b.mv k x s o s'->inv j (upd ψ k o) s'∧(∀y,o=some y->lt (rb (upd ψ k o) s') (rb ψ s))
 fits:∀{j ψ s k x},inv j ψ s->k<j->ψ k=some x->b.fits k x s
 stay:∀{j ψ s k x o s'},inv j ψ s->k<j->ψ k=some x->¬b.blk x s->b.wakes x=false->b.mv k x s o s'->∀l y,l<j->l≠k->ψ l=some y->b.blk y s->b.blk y s'
 kinds:∀x,b.kind x≠ .said∧b.kind x≠ .done∧b.kind x≠ .join
 iI:∀{j ψ s k x o s'},inv j ψ s->k<j->ψ k=some x->b.mv k x s o s'->Kind.iI (b.deaf x) (b.kind x)=match o with |some y=>b.deaf y|none=>0
 plain:∀{j ψ s k x o s'},inv j ψ s->k<j->ψ k=some x->b.mv k x s o s'->(b.kind x).plain=true->(b.free s'↔b.free s)∧∀G w,b.J s G w->b.J s' G w
 sN:∀{j ψ s k x o s'},inv j ψ s->k<j->ψ k=some x->b.mv k x s o s'->b.kind x= .sN->b.free s∧¬b.free s'∧b.deaf x=0∧o≠none
 sO:∀{j ψ s k x o s'},inv j ψ s->k<j->ψ k=some x->b.mv k x s o s'->b.kind x= .sO->¬b.free s∧b.deaf x=0∧o≠none
 alive:∀{j ψ s},inv j ψ s->(∃k x,k<j∧ψ k=some x)->∃k x,k<j∧ψ k=some x∧¬b.blk x s
 finish:∀{ψ s},inv N ψ s->(∀k,k<N->ψ k=none)->b.free s∧b.fin s
 GK:∀s w d,b.rep s w->b.rep s (w.at d)
 ym:∀s w w',b.rep s w->(∀b,syn b->xe w.heap[b]? w'.heap[b]?∧∀k,w'.cell? ⟨b,k,none⟩=w.cell? ⟨b,k,none⟩)->b.rep s w'
 xO:∀s G w w',b.J s G w->(∀b,G b->w'.heap[b]?=w.heap[b]?)->b.J s G w'
 Kt:∀j x,b.init j (some x)->b.deaf x=0
structure A8:Prop where
 big:C.N<2147483647
 wg:C.syn C.Wg
 CP:∀sb w w',C.body.rep sb w->(∀b,b≠C.Wg->w'.heap[b]?=w.heap[b]?)->C.body.rep sb w'
 cl:∀k b i,k<C.N->C.cl k b i->C.pt b
 XX:∀k l b i,C.cl k b i->C.cl l b i->k=l
 AV:∀dn D Dc w w',C.Dp dn D Dc w->(∀b,D b->w'.heap[b]?=w.heap[b]?)->(∀b i,Dc b i->w'.cell? ⟨b,i,none⟩=w.cell? ⟨b,i,none⟩)->C.Dp dn D Dc w'
end
end Par
end
section
namespace Par
open Go Go.Conc Go.ConcM Go.ConcN
theorem zF {α:Type} {f:α->Nat} {g:Nat->α} {k:Nat} {a:α}:∀{n:Nat},k<n->sm n (λi=>f (upd g k a i))+f (g k)=sm n (λi=>f (g i))+f a
 |0,h=>by omega
 |n+1,h=>by
  show sm n (λi=>f (upd g k a i))+f (upd g k a n)+f (g k)=sm n (λi=>f (g i))+f (g n)+f a
  by_cases e:k=n
  ·subst e
   have :sm k (λi=>f (upd g k a i))=sm k (λi=>f (g i)):=by
    have h1:∀j,j<k->f (upd g k a j)=f (g j):= λj hj=>by rw [upd_ne (by omega)]
    exact Nat.le_antisymm (GQ λj hj=>by rw [h1 j hj];exact aj _) (GQ λj hj=>by rw [h1 j hj];exact aj _)
   rw [this,upd_same];omega
  ·have :=zF (f:=f) (g:=g) (k:=k) (a:=a) (n:=n) (by omega);rw [upd_ne (Ne.symm e)];omega
theorem xS {f:Nat->Nat} {k:Nat}:∀{n:Nat},k<n->f k<=sm n f
 |0,h=>by omega
 |n+1,h=>by
  show f k<=sm n f+f n
  by_cases e:k=n
  ·subst e;omega
  ·have :=xS (f:=f) (k:=k) (n:=n) (by omega);omega
theorem I1 {f:Nat->Nat} {n:Nat} (h:sm n f=0):∀k,k<n->f k=0:= λk hk=>by
 have :=xS (f:=f) hk;omega
theorem XY {f:Nat->Nat}:∀{n:Nat},0<sm n f->∃k,k<n∧0<f k
 |0,h=>by simp [sm] at h
 |n+1,h=>by
  have h:0<sm n f+f n:=h
  by_cases e:0<f n
  ·exact ⟨n,by omega,e⟩
  ·obtain ⟨k,h1,h2⟩:=XY (f:=f) (n:=n) (by omega);exact ⟨k,by omega,h2⟩
section
variable {B Sb:Type} (C:EX B Sb)
def pre:Option (FT B)->Nat
 |some (.bd _ _)=>1
 |some (.wg _ .wr)=>1
 |some (.wg _ .k1)=>1
 |some (.wg _ .d1)=>1
 |_=>0
def yT:Option (FT B)->Nat
 |some (.wg _ .d2)=>1
 |some (.wg _ .d3)=>1
 |_=>0
def x4:Option (FT B)->Nat
 |some (.wg _ .d4)=>1
 |_=>0
def iR:Option (FT B)->Option B
 |some (.bd _ b)=>some b
 |_=>none
def Ku:Option (FT B)->Bool
 |some (.bd _ _)=>false
 |some (.wg _ .wr)=>false
 |_=>true
def jV.pend:jV->Nat
 | .LB| .MU| .EW=>1
 |_=>0
def jV.starts:jV->Bool
 | .P9| .MR| .LB| .MU| .EW=>true
 |_=>false
def jV.ends:jV->Bool
 | .w4| .ke| .aq| .fin=>true
 |_=>false
def jV.waits:jV->Bool
 | .Vf| .w3=>true
 |_=>false
structure FI (inv:Nat->(Nat->Option B)->Sb->Prop) (n:Nat) (φ:Nat->Option (FT B)) (s:sV Sb) (pc:jV) (j:Nat) (idx:Nat->Nat) (ws:Nat->Option (FT B)):Prop where
 h0:φ 0=some (.st pc j)
 n0:0<n
 ij:∀k,k<j->0<idx k∧idx k<n
 inj:∀k l,k<j->l<j->idx k=idx l->k=l
 at':∀k,k<j->φ (idx k)=ws k
 who:∀k T,k<j->ws k=some T->(∃b,T= .bd k b)∨∃p,T= .wg k p∧p≠ .qt
 out:∀i,i≠0->(∀k,k<j->idx k≠i)->φ i=none
 cnt:s.v=sm j (λk=>pre (ws k))+pc.pend
 yU:pc.waits=false->sm j (λk=>yT (ws k))=0∧sm j (λk=>x4 (ws k))=0∧s.wt=0∧s.sm=0
 Kv:pc.waits=true->(0<s.v∧s.wt=1∧s.sm=0∧sm j (λk=>yT (ws k))=0∧sm j (λk=>x4 (ws k))=0)∨(s.v=0∧s.wt=1∧s.sm=0∧sm j (λk=>yT (ws k))=1∧sm j (λk=>x4 (ws k))=0)∨
  (s.v=0∧s.wt=0∧s.sm=0∧sm j (λk=>yT (ws k))=0∧sm j (λk=>x4 (ws k))=1)∨(s.v=0∧s.wt=0∧s.sm=1∧sm j (λk=>yT (ws k))=0∧sm j (λk=>x4 (ws k))=0)
 XZ:pc.ends=true->s.v=0
 VZ:∀v,pc= .w2 v->0<v∧s.v<=v
 shB:∀v,pc= .w1 v->s.v<=v
 jS:pc.starts=true->j<C.N
 jW:pc.starts=false->j=C.N
 jN:j<=C.N
 dn:∀k,k<j->s.dn k=Ku (ws k)
 dnN:∀k,j<=k->s.dn k=false
 jn:s.jn=true↔pc= .fin
 body:inv j (λk=>if k<j then iR (ws k) else none) s.b
def Kw (inv:Nat->(Nat->Option B)->Sb->Prop) (n:Nat) (φ:Nat->Option (FT B)) (s:sV Sb):Prop:=∃pc j idx ws,FI C inv n φ s pc j idx ws
def jV.rank (N _v j:Nat):jV->Nat
 | .P9=>6*(N - j)+2*N+20
 | .MR=>6*(N - j)+2*N+19
 | .LB=>6*(N - j)+2*N+18
 | .MU=>6*(N - j)+2*N+17
 | .EW=>6*(N - j)+2*N+16
 | .kd=>2*N+15
 | .w1 b=>2*b+9
 | .w2 u=>2*u+8
 | .Vf=>6
 | .w3=>5
 | .w4=>4
 | .ke=>3
 | .aq=>2
 | .fin=>1
def sW:Option (FT B)->Nat
 |some (.bd _ _)=>7
 |some (.wg _ .wr)=>6
 |some (.wg _ .k1)=>5
 |some (.wg _ .d1)=>4
 |some (.wg _ .d2)=>3
 |some (.wg _ .d3)=>2
 |some (.wg _ .d4)=>1
 |_=>0
variable {C} {inv:Nat->(Nat->Option B)->Sb->Prop} {n:Nat} {φ:Nat->Option (FT B)} {s:sV Sb} {pc:jV} {j:Nat} {idx:Nat->Nat} {ws:Nat->Option (FT B)}
theorem FI.worker (h:FI C inv n φ s pc j idx ws) {i:Nat} {T:FT B} (hi:i≠0) (hφ:φ i=some T):∃k,k<j∧idx k=i∧ws k=some T:=by
 by_cases hk:∃k,k<j∧idx k=i
 ·obtain ⟨k,h1,h2⟩:=hk;exact ⟨k,h1,h2,by rw [<-h.at' k h1,h2];exact hφ⟩
 ·exfalso;have :=h.out i hi λk h1 h2=>hk ⟨k,h1,h2⟩
  rw [this] at hφ;cases hφ
theorem FI.Ca (h:FI C inv n φ s pc j idx ws) {i:Nat} {p:jV} {l:Nat} (hφ:φ i=some (.st p l)):i=0∧p=pc∧l=j:=by
 by_cases hi:i=0
 ·subst hi;rw [h.h0] at hφ;cases hφ;exact ⟨rfl,rfl,rfl⟩
 ·obtain ⟨k,h1,_,h3⟩:=h.worker hi hφ;rcases h.who k _ h1 h3 with ⟨b,e⟩|⟨q,e,_⟩<;>cases e
theorem FI.ku (h:FI C inv n φ s pc j idx ws) {i k:Nat} {b:B} (hφ:φ i=some (.bd k b)):i≠0∧k<j∧idx k=i∧ws k=some (.bd k b):=by
 by_cases hi:i=0
 ·subst hi;rw [h.h0] at hφ;cases hφ
 ·obtain ⟨l,h1,h2,h3⟩:=h.worker hi hφ;rcases h.who l _ h1 h3 with ⟨b',e⟩|⟨q,e,_⟩
  ·cases e;exact ⟨hi,h1,h2,h3⟩
  ·cases e
theorem FI.Qc (h:FI C inv n φ s pc j idx ws) {i k:Nat} {p:qZ} (hφ:φ i=some (.wg k p)):i≠0∧k<j∧idx k=i∧ws k=some (.wg k p)∧p≠ .qt:=by
 by_cases hi:i=0
 ·subst hi;rw [h.h0] at hφ;cases hφ
 ·obtain ⟨l,h1,h2,h3⟩:=h.worker hi hφ;rcases h.who l _ h1 h3 with ⟨b',e⟩|⟨q,e,hq⟩
  ·cases e
  ·cases e;exact ⟨hi,h1,h2,h3,hq⟩
theorem FI.st (h:FI C inv n φ s pc j idx ws) {pc':jV} {s':sV Sb} (hb:s'.b=s.b) (hd:s'.dn=s.dn) (cnt:s'.v=sm j (λk=>pre (ws k))+pc'.pend)
 (yU:pc'.waits=false->sm j (λk=>yT (ws k))=0∧sm j (λk=>x4 (ws k))=0∧s'.wt=0∧s'.sm=0)
 (Kv:pc'.waits=true->(0<s'.v∧s'.wt=1∧s'.sm=0∧sm j (λk=>yT (ws k))=0∧sm j (λk=>x4 (ws k))=0)∨(s'.v=0∧s'.wt=1∧s'.sm=0∧sm j (λk=>yT (ws k))=1∧sm j (λk=>x4 (ws k))=0)∨
   (s'.v=0∧s'.wt=0∧s'.sm=0∧sm j (λk=>yT (ws k))=0∧sm j (λk=>x4 (ws k))=1)∨(s'.v=0∧s'.wt=0∧s'.sm=1∧sm j (λk=>yT (ws k))=0∧sm j (λk=>x4 (ws k))=0))
 (XZ:pc'.ends=true->s'.v=0) (VZ:∀v,pc'= .w2 v->0<v∧s'.v<=v) (shB:∀v,pc'= .w1 v->s'.v<=v) (hst:pc'.starts=pc.starts) (jn:s'.jn=true↔pc'= .fin):FI C inv n (upd φ 0 (some (.st pc' j))) s' pc' j idx ws:=
 ⟨upd_same ..,h.n0,h.ij,h.inj, λk hk=>by rw [upd_ne (by have :=(h.ij k hk).1;omega)];exact h.at' k hk,h.who, λi hi hk=>by rw [upd_ne hi];exact h.out i hi hk,cnt,yU,Kv,XZ,VZ,shB, λe=>h.jS (hst ▸ e), λe=>h.jW (hst ▸ e),h.jN, λk hk=>by rw [hd];exact h.dn k hk, λk hk=>by rw [hd];exact h.dnN k hk,jn,by rw [hb];exact h.body⟩
theorem FI.xU (h:FI C inv n φ s pc j idx ws) (he:pc.ends=true) {k:Nat} (hk:k<j):ws k=none:=by
 have h0:=h.XZ he;have hc:=h.cnt;have hw:pc.waits=false:=by cases pc<;>simp_all [jV.ends,jV.waits]
 obtain ⟨b1,b2,_,_⟩:=h.yU hw;have z1:=I1 (f:= λk=>pre (ws k)) (n:=j) (by omega) k hk;have z2:=I1 b1 k hk;have z3:=I1 b2 k hk;cases hT:ws k with
 |none=>rfl
 |some T=>
  exfalso;simp only [hT] at z1 z2 z3;rcases h.who k T hk hT with ⟨b,rfl⟩|⟨p,rfl,hp⟩
  ·cases z1
  ·cases p<;>simp [pre,yT,x4] at z1 z2 z3;exact hp rfl
theorem FI.Ol (h:FI C inv n φ s pc j idx ws) {k:Nat} (hk:k<j) {T:FT B} (hT:ws k=some T):pc.ends=false:=by
 cases he:pc.ends with
 |false=>rfl
 |true=>rw [h.xU he hk] at hT;cases hT
theorem FI.wk (h:FI C inv n φ s pc j idx ws) (hne:pc.ends=false) {k:Nat} (hk:k<j) {o:Option (FT B)} {s':sV Sb} (ho:∀T,o=some T->(∃b,T= .bd k b)∨∃p,T= .wg k p∧p≠ .qt) (cnt:s'.v+pre (ws k)=s.v+pre o) (hv:s'.v<=s.v)
 (yU:pc.waits=false->yT o=yT (ws k)∧x4 o=x4 (ws k)∧s'.wt=0∧s'.sm=0)
 (Kv:pc.waits=true->∀a b:Nat,a+yT (ws k)=sm j (λk=>yT (ws k))+yT o->b+x4 (ws k)=sm j (λk=>x4 (ws k))+x4 o->
   (0<s'.v∧s'.wt=1∧s'.sm=0∧a=0∧b=0)∨(s'.v=0∧s'.wt=1∧s'.sm=0∧a=1∧b=0)∨(s'.v=0∧s'.wt=0∧s'.sm=0∧a=0∧b=1)∨(s'.v=0∧s'.wt=0∧s'.sm=1∧a=0∧b=0))
 (dnk:s'.dn k=Ku o) (dno:∀l,l≠k->s'.dn l=s.dn l) (hj:s'.jn=s.jn) (hb:inv j (upd (λk=>if k<j then iR (ws k) else none) k (iR o)) s'.b):FI C inv n (upd φ (idx k) o) s' pc j idx (upd ws k o):=by
 have e1:=zF (f:=pre) (g:=ws) (k:=k) (a:=o) hk;have e2:=zF (f:=yT) (g:=ws) (k:=k) (a:=o) hk;have e3:=zF (f:=x4) (g:=ws) (k:=k) (a:=o) hk;refine ⟨by rw [upd_ne (by have :=(h.ij k hk).1;omega)];exact h.h0,h.n0,h.ij,h.inj, λl hl=>?_, λl T hl hT=>?_, λi hi hn=>?_,?_, λhp=>?_, λhp=>?_, λhp=>?_, λv e=>⟨(h.VZ v e).1,aC hv (h.VZ v e).2⟩, λv e=>aC hv (h.shB v e),h.jS,h.jW,h.jN, λl hl=>?_, λl hl=>by rw [dno l (by omega)];exact h.dnN l hl,by rw [hj];exact h.jn,?_⟩
 ·by_cases e:l=k
  ·subst e;rw [upd_same,upd_same]
  ·rw [upd_ne e,upd_ne λe'=>e (h.inj l k hl hk e')];exact h.at' l hl
 ·by_cases e:l=k
  ·subst e;rw [upd_same] at hT;exact ho T hT
  ·rw [upd_ne e] at hT;exact h.who l T hl hT
 ·rw [upd_ne λe=>hn k hk e.symm];exact h.out i hi hn
 ·have :=h.cnt;omega
 ·obtain ⟨a1,a2,a3,a4⟩:=yU hp;obtain ⟨b1,b2,_,_⟩:=h.yU hp;exact ⟨by omega,by omega,a3,a4⟩
 ·exact Kv hp _ _ e2 e3
 ·rw [hne] at hp;cases hp
 ·by_cases e:l=k
  ·subst e;rw [upd_same];exact dnk
  ·rw [upd_ne e,dno l e];exact h.dn l hl
 ·have :(λl=>if l<j then iR (upd ws k o l) else none)=upd (λk=>if k<j then iR (ws k) else none) k (iR o):=by
   funext l
   by_cases e:l=k
   ·subst e;rw [upd_same,upd_same,if_pos hk]
   ·rw [upd_ne e,upd_ne e]
  rw [this];exact hb
end
end Par
end
section
namespace Par
open Go Go.Conc Go.ConcM Go.ConcN
section
variable {B Sb ρ:Type} {C:EX B Sb} {inv:Nat->(Nat->Option B)->Sb->Prop} {rb:(Nat->Option B)->Sb->ρ} {lt:ρ->ρ->Prop} {n:Nat} {φ:Nat->Option (FT B)} {s:sV Sb} {pc:jV} {j:Nat} {idx:Nat->Nat} {ws:Nat->Option (FT B)}
open Classical in
noncomputable def Ze (φ:Nat->Option (FT B)) (k:Nat):Option B:=if h:∃b i,φ i=some (.bd k b) then some h.choose else none
theorem FI.Ze (h:FI C inv n φ s pc j idx ws):Ze φ= λk=>if k<j then iR (ws k) else none:=by
 funext k;unfold Par.Ze
 by_cases hx:∃b i,φ i=some (FT.bd k b)
 ·rw [dif_pos hx];obtain ⟨i,hi⟩:=hx.choose_spec;obtain ⟨_,h1,_,h3⟩:=h.ku hi;rw [if_pos h1,h3];rfl
 ·rw [dif_neg hx]
  by_cases hk:k<j
  ·rw [if_pos hk];cases hT:ws k with
   |none=>rfl
   |some T=>
    rcases h.who k T hk hT with ⟨b,rfl⟩|⟨p,rfl,_⟩
    ·exact absurd ⟨b,idx k,by rw [h.at' k hk,hT]⟩ hx
    ·rfl
  ·rw [if_neg hk]
abbrev Fr (ρ:Type):=Nat×Nat×ρ
def Zf (N:Nat) (s:sV Sb):Option (FT B)->Nat
 |some (.st pc j)=>pc.rank N s.v j
 |_=>0
noncomputable def Tz (C:EX B Sb) (rb:(Nat->Option B)->Sb->ρ) (n:Nat) (φ:Nat->Option (FT B)) (s:sV Sb):Fr ρ:=(Zf C.N s (φ 0),sm n (λi=>sW (φ i)),rb (Par.Ze φ) s.b)
def FP (lt:ρ->ρ->Prop):Fr ρ->Fr ρ->Prop:=Prod.Lex Nat.lt (Prod.Lex Nat.lt lt)
theorem FP.wf (h:WellFounded lt):WellFounded (FP lt):=(Prod.lex Nat.lt_wfRel (Prod.lex Nat.lt_wfRel ⟨_,h⟩)).wf
theorem TA {a b:Nat} {x y:Nat×ρ} (h:a<b):FP lt (a,x) (b,y):=.left _ _ h
theorem X0 {a b c d:Nat} {x y:ρ} (h:a<=b) (h2:c<d):FP lt (a,c,x) (b,d,y):=by
 rcases Nat.lt_or_eq_of_le h with h|rfl
 ·exact .left _ _ h
 ·exact .right _ (.left _ _ h2)
theorem ah8 {a c:Nat} {x y:ρ} (h:lt x y):FP lt (a,c,x) (a,c,y):=.right _ (.right _ h)
theorem Qd {pc:jV} {N v v' j:Nat} (h:v'<=v):pc.rank N v' j<=pc.rank N v j:=by
 cases pc<;>simp [jV.rank]
theorem FI.lq (h:FI C inv n φ s pc j idx ws) (hp:pc≠ .fin):s.jn=false:=by
 cases e:s.jn with
 |false=>rfl
 |true=>exact absurd (h.jn.1 e) hp
theorem sZ {s:sV Sb} {pc:jV} (h:s.jn=false) (hp:pc≠ .fin):s.jn=true↔pc= .fin:=⟨λe=>absurd (h.symm.trans e) (by simp), λe=>absurd e hp⟩
theorem V3 (h:FI C inv n φ s pc j idx ws) {pc':jV} {s':sV Sb} (hblk:pc= .w3->s.sm≠0) (hm:Du pc j s pc' s'):FI C inv n (upd φ 0 (some (.st pc' j))) s' pc' j idx ws∧pc'.rank C.N s'.v j<pc.rank C.N s.v j:=by
 have hc:=h.cnt;have hN:=h.jN;cases hm with
 |P9=>
  have hj:=h.lq (by simp);obtain ⟨a1,a2,a3,a4⟩:=h.yU rfl;exact ⟨h.st rfl rfl (by simpa [jV.pend] using hc) (λ_=>⟨a1,a2,a3,a4⟩) (λe=>by cases e) (λe=>by cases e) (λv e=>by cases e) (λv e=>by cases e) rfl (sZ hj (by simp)),by simp [jV.rank]⟩
 |MR=>
  have hj:=h.lq (by simp);obtain ⟨a1,a2,a3,a4⟩:=h.yU rfl;split
  ·exact ⟨h.st rfl rfl (by simp [jV.pend] at hc ⊢;omega) (λ_=>⟨a1,a2,a3,a4⟩) (λe=>by cases e) (λe=>by cases e) (λv e=>by cases e) (λv e=>by cases e) rfl (sZ hj (by simp)),by simp [jV.rank]⟩
  ·exact ⟨h.st rfl rfl (by simp [jV.pend] at hc ⊢;omega) (λ_=>⟨a1,a2,a3,a4⟩) (λe=>by cases e) (λe=>by cases e) (λv e=>by cases e) (λv e=>by cases e) rfl (sZ hj (by simp)),by simp [jV.rank]⟩
 |LB=>
  have hj:=h.lq (by simp);obtain ⟨a1,a2,a3,a4⟩:=h.yU rfl;exact ⟨h.st rfl rfl (by simpa [jV.pend] using hc) (λ_=>⟨a1,a2,a3,a4⟩) (λe=>by cases e) (λe=>by cases e) (λv e=>by cases e) (λv e=>by cases e) rfl (sZ hj (by simp)),by simp [jV.rank]⟩
 |MU=>
  have hj:=h.lq (by simp);obtain ⟨a1,a2,a3,a4⟩:=h.yU rfl;exact ⟨h.st rfl rfl (by simpa [jV.pend] using hc) (λ_=>⟨a1,a2,a3,a4⟩) (λe=>by cases e) (λe=>by cases e) (λv e=>by cases e) (λv e=>by cases e) rfl (sZ hj (by simp)),by simp [jV.rank]⟩
 |kd=>
  have hj:=h.lq (by simp);obtain ⟨a1,a2,a3,a4⟩:=h.yU rfl
  have :sm j (λk=>pre (ws k))<=j:=by
   have :∀(m:Nat) (f:Nat->Nat),(∀k,f k<=1)->sm m f<=m:= λm f hf=>by
    induction m with
    |zero=>exact aj _
    |succ m ih=>
     have :=hf m;show sm m f+f m<=m+1;omega
   exact this j _ λk=>by
    cases ws k with
    |none=>simp [pre]
    |some T=>
     cases T with
     |st _ _=>simp [pre]
     |bd _ _=>simp [pre]
     |wg _ p=>cases p<;>simp [pre]
  refine ⟨h.st rfl rfl (by simpa [jV.pend] using hc) (λ_=>⟨a1,a2,a3,a4⟩) (λe=>by cases e) (λe=>by cases e) (λv e=>by cases e) (λv e=>by cases e;simp [jV.pend] at hc;omega) rfl (sZ hj (by simp)),?_⟩;simp [jV.rank,jV.pend] at hc ⊢;omega
 |w1=>
  have hj:=h.lq (by simp);have hB:=h.shB _ rfl;obtain ⟨a1,a2,a3,a4⟩:=h.yU rfl;split
  ·rename_i h0;exact ⟨h.st rfl rfl (by simpa [jV.pend] using hc) (λ_=>⟨a1,a2,a3,a4⟩) (λe=>by cases e) (λ_=>h0) (λv e=>by cases e) (λv e=>by cases e) rfl (sZ hj (by simp)),by simp [jV.rank]⟩
  ·rename_i h0;exact ⟨h.st rfl rfl (by simpa [jV.pend] using hc) (λ_=>⟨a1,a2,a3,a4⟩) (λe=>by cases e) (λe=>by cases e) (λv e=>by cases e;exact ⟨by omega,aj _⟩) (λv e=>by cases e) rfl (sZ hj (by simp)),by simp [jV.rank];omega⟩
 |XW hv=>
  have hj:=h.lq (by simp);obtain ⟨a1,a2,a3,a4⟩:=h.yU rfl;have h0:=(h.VZ _ rfl).1;exact ⟨h.st rfl rfl (by simpa [jV.pend] using hc) (λe=>by cases e) (λ_=>.inl ⟨by show 0<s.v;omega,rfl,a4,a1,a2⟩) (λe=>by cases e) (λv e=>by cases e) (λv e=>by cases e) rfl (sZ hj (by simp)),by simp [jV.rank]⟩
 |Tx hv=>
  have hj:=h.lq (by simp);obtain ⟨a1,a2,a3,a4⟩:=h.yU rfl;refine ⟨h.st rfl rfl (by simpa [jV.pend] using hc) (λ_=>⟨a1,a2,a3,a4⟩) (λe=>by cases e) (λe=>by cases e) (λv e=>by cases e) (λv e=>by cases e;have :=(h.VZ _ rfl).2;omega) rfl (sZ hj (by simp)),?_⟩;have :=(h.VZ _ rfl).1;simp [jV.rank];omega
 |Vf=>
  have hj:=h.lq (by simp);exact ⟨h.st rfl rfl (by simpa [jV.pend] using hc) (λe=>by cases e) (λ_=>h.Kv rfl) (λe=>by cases e) (λv e=>by cases e) (λv e=>by cases e) rfl (sZ hj (by simp)),by simp [jV.rank]⟩
 |w3=>
  have hj:=h.lq (by simp);have hb:=hblk rfl;rcases h.Kv rfl with x|x|x|⟨x1,x2,x3,x4,x5⟩
  ·omega
  ·omega
  ·omega
  ·exact ⟨h.st rfl rfl (by simpa [jV.pend] using hc) (λ_=>⟨x4,x5,x2,by simp [x3]⟩) (λe=>by cases e) (λ_=>x1) (λv e=>by cases e) (λv e=>by cases e) rfl (sZ hj (by simp)),by simp [jV.rank]⟩
 |w4=>
  have hj:=h.lq (by simp);obtain ⟨a1,a2,a3,a4⟩:=h.yU rfl;exact ⟨h.st rfl rfl (by simpa [jV.pend] using hc) (λ_=>⟨a1,a2,a3,a4⟩) (λe=>by cases e) (λ_=>h.XZ rfl) (λv e=>by cases e) (λv e=>by cases e) rfl (sZ hj (by simp)),by simp [jV.rank]⟩
 |ke=>
  have hj:=h.lq (by simp);obtain ⟨a1,a2,a3,a4⟩:=h.yU rfl;exact ⟨h.st rfl rfl (by simpa [jV.pend] using hc) (λ_=>⟨a1,a2,a3,a4⟩) (λe=>by cases e) (λ_=>h.XZ rfl) (λv e=>by cases e) (λv e=>by cases e) rfl (sZ hj (by simp)),by simp [jV.rank]⟩
 |aq=>
  have hj:=h.lq (by simp);obtain ⟨a1,a2,a3,a4⟩:=h.yU rfl;exact ⟨h.st rfl rfl (by simpa [jV.pend] using hc) (λ_=>⟨a1,a2,a3,a4⟩) (λe=>by cases e) (λ_=>h.XZ rfl) (λv e=>by cases e) (λv e=>by cases e) rfl ⟨λ_=>rfl, λ_=>rfl⟩,by simp [jV.rank]⟩
end
end Par
end
section
namespace Par
open Go Go.Conc Go.ConcM Go.ConcN
section
variable {B Sb ρ:Type} {C:EX B Sb} {inv:Nat->(Nat->Option B)->Sb->Prop} {rb:(Nat->Option B)->Sb->ρ} {lt:ρ->ρ->Prop} {n:Nat} {φ:Nat->Option (FT B)} {s:sV Sb} {pc:jV} {j:Nat} {idx:Nat->Nat} {ws:Nat->Option (FT B)}
def qZ.n23:qZ->Nat
 | .d2| .d3=>1
 |_=>0
def qZ.n4:qZ->Nat
 | .d4=>1
 |_=>0
def qZ.V4:qZ->Nat
 | .wr| .k1| .d1=>1
 |_=>0
theorem wF (k:Nat) (p:qZ):yT (some (.wg k p):Option (FT B))=p.n23:=by cases p<;>rfl
theorem Ba (k:Nat) (p:qZ):x4 (some (.wg k p):Option (FT B))=p.n4:=by cases p<;>rfl
theorem I4 (k:Nat) (p:qZ):pre (some (.wg k p):Option (FT B))=p.V4:=by cases p<;>rfl
theorem tq:yT (none:Option (FT B))=0:=rfl
theorem wG:x4 (none:Option (FT B))=0:=rfl
theorem pre_none:pre (none:Option (FT B))=0:=rfl
theorem FI.EY (h:FI C inv n φ s pc j idx ws) {k:Nat} (hk:k<j) {o:Option (FT B)} (e1:iR (ws k)=none) (e2:iR o=none):inv j (upd (λk=>if k<j then iR (ws k) else none) k (iR o)) s.b:=by
 have :upd (λk=>if k<j then iR (ws k) else none) k (iR o)= λk=>if k<j then iR (ws k) else none:=by
  funext l
  by_cases e:l=k
  ·subst e;rw [upd_same,if_pos hk,e1,e2]
  ·rw [upd_ne e]
 rw [this];exact h.body
theorem V5 (h:FI C inv n φ s pc j idx ws) {k:Nat} (hk:k<j) {p p':qZ} (hw:ws k=some (.wg k p)) {s':sV Sb} (hm:Ty k p s p' s'):
 (∃o,o=(if p'.zD then none else some (FT.wg k p'))∧FI C inv n (upd φ (idx k) o) s' pc j idx (upd ws k o)∧sW o<sW (ws k))∧s'.v<=s.v:=by
 have hne:=h.Ol hk hw;have hc:=h.cnt;have p1:=xS (f:= λk=>pre (ws k)) hk;have p2:=xS (f:= λk=>yT (ws k)) hk;have p3:=xS (f:= λk=>x4 (ws k)) hk;simp only [hw,I4,wF,Ba] at p1 p2 p3;have P7:=h.dn k hk;rw [hw] at P7;cases hm with
 |wr=>
  refine ⟨⟨some (.wg k .k1),by simp [qZ.zD],h.wk hne hk (λT e=>by cases e;exact .inr ⟨_,rfl,by simp⟩) (by rw [hw];rfl) (aj _) (λe=>?_) (λe a b ea eb=>?_) ?_ (λl hl=>?_) rfl (h.EY hk (by rw [hw];rfl) rfl),by rw [hw];simp [sW]⟩,aj _⟩
  ·obtain ⟨_,_,a3,a4⟩:=h.yU e;rw [hw];exact ⟨rfl,rfl,a3,a4⟩
  ·rw [hw] at ea eb;simp only [wF,Ba,tq,wG,qZ.n23,qZ.n4,Nat.add_zero] at ea eb;rw [ea,eb];exact h.Kv e
  ·simp [Qa,Ku]
  ·simp [Qa,hl]
 |k1=>
  refine ⟨⟨some (.wg k .d1),by simp [qZ.zD],h.wk hne hk (λT e=>by cases e;exact .inr ⟨_,rfl,by simp⟩) (by rw [hw];rfl) (aj _) (λe=>?_) (λe a b ea eb=>?_) P7 (λl hl=>rfl) rfl (h.EY hk (by rw [hw];rfl) rfl),by rw [hw];simp [sW]⟩,aj _⟩
  ·obtain ⟨_,_,a3,a4⟩:=h.yU e;rw [hw];exact ⟨rfl,rfl,a3,a4⟩
  ·rw [hw] at ea eb;simp only [wF,Ba,tq,wG,qZ.n23,qZ.n4,Nat.add_zero] at ea eb;rw [ea,eb];exact h.Kv e
 |d1=>
  have p1:1<=sm j (λk=>pre (ws k)):=p1
  by_cases hx:s.v=1∧s.wt=1
  ·rw [if_pos hx];refine ⟨⟨some (.wg k .d2),by simp [qZ.zD],h.wk hne hk (λT e=>by cases e;exact .inr ⟨_,rfl,by simp⟩) (by rw [hw];simp only [I4,pre_none,qZ.V4];omega) (by simp) (λe=>?_) (λe a b ea eb=>?_) P7 (λl hl=>rfl) rfl (h.EY hk (by rw [hw];rfl) rfl),by rw [hw];simp [sW]⟩,by simp⟩
   ·obtain ⟨_,_,a3,a4⟩:=h.yU e;omega
   ·rw [hw] at ea eb;simp only [wF,Ba,tq,wG,qZ.n23,qZ.n4,Nat.add_zero] at ea eb
    refine .inr (.inl ?_);rcases h.Kv e with x|x|x|x
    ·exact ⟨by show s.v - 1=0;omega,x.2.1,x.2.2.1,by omega,by omega⟩
    all_goals omega
  ·rw [if_neg hx];refine ⟨⟨none,by simp [qZ.zD],h.wk hne hk (λT e=>by cases e) (by rw [hw];simp only [I4,pre_none,qZ.V4];omega) (by simp) (λe=>?_) (λe a b ea eb=>?_) P7 (λl hl=>rfl) rfl (h.EY hk (by rw [hw];rfl) rfl),by rw [hw];simp [sW]⟩,by simp⟩
   ·obtain ⟨_,_,a3,a4⟩:=h.yU e;rw [hw];exact ⟨rfl,rfl,a3,a4⟩
   ·rw [hw] at ea eb;simp only [wF,Ba,tq,wG,qZ.n23,qZ.n4,Nat.add_zero] at ea eb
    refine .inl ?_
    rcases h.Kv e with x|x|x|x
    ·exact ⟨by show 0<s.v - 1;omega,x.2.1,x.2.2.1,by omega,by omega⟩
    all_goals omega
 |d2=>
  refine ⟨⟨some (.wg k .d3),by simp [qZ.zD],h.wk hne hk (λT e=>by cases e;exact .inr ⟨_,rfl,by simp⟩) (by rw [hw];rfl) (aj _) (λe=>?_) (λe a b ea eb=>?_) P7 (λl hl=>rfl) rfl (h.EY hk (by rw [hw];rfl) rfl),by rw [hw];simp [sW]⟩,aj _⟩
  ·obtain ⟨_,_,a3,a4⟩:=h.yU e;rw [hw];exact ⟨rfl,rfl,a3,a4⟩
  ·rw [hw] at ea eb;simp only [wF,Ba,tq,wG,qZ.n23,qZ.n4,Nat.add_zero] at ea eb;rw [Nat.add_right_cancel ea,eb];exact h.Kv e
 |d3=>
  have p2:1<=sm j (λk=>yT (ws k)):=p2;refine ⟨⟨some (.wg k .d4),by simp [qZ.zD],h.wk hne hk (λT e=>by cases e;exact .inr ⟨_,rfl,by simp⟩) (by rw [hw];rfl) (aj _) (λe=>?_) (λe a b ea eb=>?_) P7 (λl hl=>rfl) rfl (h.EY hk (by rw [hw];rfl) rfl),by rw [hw];simp [sW]⟩,aj _⟩
  ·obtain ⟨a1,_,a3,a4⟩:=h.yU e;omega
  ·rw [hw] at ea eb;simp only [wF,Ba,tq,wG,qZ.n23,qZ.n4,Nat.add_zero] at ea eb
   refine .inr (.inr (.inl ?_));rcases h.Kv e with x|x|x|x
   ·omega
   ·exact ⟨x.1,rfl,x.2.2.1,by omega,by omega⟩
   all_goals omega
 |d4=>
  have p3:1<=sm j (λk=>x4 (ws k)):=p3;refine ⟨⟨none,by simp [qZ.zD],h.wk hne hk (λT e=>by cases e) (by rw [hw];rfl) (aj _) (λe=>?_) (λe a b ea eb=>?_) P7 (λl hl=>rfl) rfl (h.EY hk (by rw [hw];rfl) rfl),by rw [hw];simp [sW]⟩,aj _⟩
  ·obtain ⟨_,a2,a3,a4⟩:=h.yU e;omega
  ·rw [hw] at ea eb;simp only [wF,Ba,tq,wG,qZ.n23,qZ.n4,Nat.add_zero] at ea eb
   refine .inr (.inr (.inr ?_));rcases h.Kv e with x|x|x|x
   ·omega
   ·omega
   ·exact ⟨x.1,x.2.1,by show s.sm+1=1;omega,by omega,by omega⟩
   ·omega
theorem Om {N:Nat} {syn:Nat->Prop} (ok:lT C.body N syn inv rb lt) (h:FI C inv n φ s pc j idx ws) {k:Nat} (hk:k<j) {b:B} (hw:ws k=some (.bd k b)) (hblk:¬C.body.blk b s.b) {o:Option B} {sb':Sb} (hm:C.body.mv k b s.b o sb')
 {T:FT B} (hT:T=match o with |some b'=>.bd k b'|none=>.wg k .wr):FI C inv n (upd φ (idx k) (some T)) { s with b:=sb' } pc j idx (upd ws k (some T))∧(∀b',o=some b'->lt (rb (upd (λk=>if k<j then iR (ws k) else none) k o) sb') (rb (λk=>if k<j then iR (ws k) else none) s.b)):=by
 have hne:=h.Ol hk hw
 have FR:(λk=>if k<j then iR (ws k) else none) k=some b:=by
  show (if k<j then iR (ws k) else none)=some b;rw [if_pos hk,hw];rfl
 obtain ⟨h1,h2⟩:=ok.move h.body hk FR hblk hm;have P7:=h.dn k hk;rw [hw] at P7;have hbp:iR (some T)=o:=by cases o<;>(subst hT;rfl)
 have hpre:pre (some T)=1:=by cases o<;>(subst hT;rfl)
 have hx:yT (some T)=0:=by cases o<;>(subst hT;rfl)
 have hx':x4 (some T)=0:=by cases o<;>(subst hT;rfl)
 have hs:Ku (some T)=false:=by cases o<;>(subst hT;rfl)
 refine ⟨h.wk hne hk (λT' e=>?_) (by rw [hw,hpre];rfl) (aj _) (λe=>?_) (λe a c ea eb=>?_) (by rw [hs];exact P7) (λl hl=>rfl) rfl (by rw [hbp];exact h1),h2⟩
 ·cases e;cases o
  ·exact .inr ⟨.wr,hT,by simp⟩
  ·exact .inl ⟨_,hT⟩
 ·obtain ⟨_,_,a3,a4⟩:=h.yU e;rw [hw,hx,hx'];exact ⟨rfl,rfl,a3,a4⟩
 ·rw [hw,hx] at ea;rw [hw,hx'] at eb;simp only [show yT (some (FT.bd k b))=0 from rfl,show x4 (some (FT.bd k b))=0 from rfl,Nat.add_zero] at ea eb;rw [ea,eb];exact h.Kv e
theorem Oo {N:Nat} {syn:Nat->Prop} (ok:lT C.body N syn inv rb lt) (hN:N=C.N) (h:FI C inv n φ s .EW j idx ws) {o:Option B} (ho:C.body.init j o) {T:FT B} (hT:T=match o with |some b'=>.bd j b'|none=>.wg j .wr):
 FI C inv (n+1) (upd (upd φ 0 (some (.st (eO C (j+1)) (j+1)))) n (some T)) s (eO C (j+1)) (j+1) (upd idx j n) (upd ws j (some T)):=by
 have hjN:j<C.N:=h.jS rfl;have hn0:=h.n0;have hc:=h.cnt;obtain ⟨a1,a2,a3,a4⟩:=h.yU rfl;have hbp:iR (some T)=o:=by cases o<;>(subst hT;rfl)
 have hpre:pre (some T)=1:=by cases o<;>(subst hT;rfl)
 have hx:yT (some T)=0:=by cases o<;>(subst hT;rfl)
 have hx':x4 (some T)=0:=by cases o<;>(subst hT;rfl)
 have hs:Ku (some T)=false:=by cases o<;>(subst hT;rfl)
 have same:∀f:Option (FT B)->Nat,sm j (λk=>f (upd ws j (some T) k))=sm j (λk=>f (ws k)):= λf=>by
  have h1:∀k,k<j->f (upd ws j (some T) k)=f (ws k):= λk hk=>by rw [upd_ne (by omega)]
  exact Nat.le_antisymm (GQ λk hk=>by rw [h1 k hk];exact aj _) (GQ λk hk=>by rw [h1 k hk];exact aj _)
 have plus:∀f:Option (FT B)->Nat,sm (j+1) (λk=>f (upd ws j (some T) k))=sm j (λk=>f (ws k))+f (some T):= λf=>by
  show sm j (λk=>f (upd ws j (some T) k))+f (upd ws j (some T) j)=_;rw [same,upd_same]
 have hnp:(eO C (j+1)).pend=0∧(eO C (j+1)).waits=false∧(eO C (j+1)).ends=false∧eO C (j+1)≠ .fin∧(∀v,eO C (j+1)≠ .w2 v)∧(∀v,eO C (j+1)≠ .w1 v)∧((eO C (j+1)).starts=true↔j+1<C.N):=by
  unfold eO;split
  ·rename_i h1;exact ⟨rfl,rfl,rfl,by simp,by simp,by simp,⟨λ_=>h1, λ_=>rfl⟩⟩
  ·rename_i h1;exact ⟨rfl,rfl,rfl,by simp,by simp,by simp,⟨λe=>(by cases e), λe=>absurd e h1⟩⟩
 obtain ⟨q1,q2,q3,q4,q5,q7,q6⟩:=hnp;have Zg:∀k,k<j->upd idx j n k=idx k:= λk hk=>upd_ne (by omega)
 refine ⟨by rw [upd_ne (by omega),upd_same],by omega, λk hk=>?_, λk l hk hl e=>?_, λk hk=>?_, λk T' hk hT'=>?_, λi hi hk=>?_,?_, λ_=>⟨by rw [plus,hx];exact a1,by rw [plus,hx'];exact a2,a3,a4⟩,(λe=>by rw [q2] at e;cases e),(λe=>by rw [q3] at e;cases e), λv e=>absurd e (q5 v), λv e=>absurd e (q7 v), λe=>q6.1 e, λe=>?_,by omega, λk hk=>?_, λk hk=>h.dnN k (by omega),sZ (h.lq (by simp)) q4,?_⟩
 ·by_cases e:k=j
  ·subst e;rw [upd_same];omega
  ·rw [Zg k (by omega)];have :=h.ij k (by omega);omega
 ·by_cases ek:k=j
  ·by_cases el:l=j
   ·omega
   ·exfalso;subst ek;rw [upd_same,Zg l (by omega)] at e;have :=h.ij l (by omega);omega
  ·by_cases el:l=j
   ·exfalso;subst el;rw [upd_same,Zg k (by omega)] at e;have :=h.ij k (by omega);omega
   ·rw [Zg k (by omega),Zg l (by omega)] at e;exact h.inj k l (by omega) (by omega) e
 ·by_cases e:k=j
  ·subst e;rw [upd_same,upd_same,upd_same]
  ·have :=h.ij k (by omega);rw [Zg k (by omega),upd_ne (by omega),upd_ne (by omega),upd_ne e];exact h.at' k (by omega)
 ·by_cases e:k=j
  ·subst e;rw [upd_same] at hT';cases hT';cases o
   ·exact .inr ⟨.wr,hT,by simp⟩
   ·exact .inl ⟨_,hT⟩
  ·rw [upd_ne e] at hT';exact h.who k T' (by omega) hT'
 ·have hin:i≠n:= λe=>hk j (by omega) (by rw [upd_same];exact e.symm)
  rw [upd_ne hin,upd_ne hi];exact h.out i hi λk hk' e=>hk k (by omega) (by rw [Zg k hk'];exact e)
 ·rw [plus,hpre,q1,hc];simp [jV.pend]
 ·have :¬j+1<C.N:= λx=>by rw [q6.2 x] at e;cases e
  omega
 ·by_cases e:k=j
  ·subst e;rw [upd_same,hs];exact h.dnN k (aj _)
  ·rw [upd_ne e];exact h.dn k (by omega)
 ·have e1:(λk=>if k<j+1 then iR (upd ws j (some T) k) else none)=upd (λk=>if k<j then iR (ws k) else none) j o:=by
   funext k
   by_cases e:k=j
   ·subst e;rw [upd_same,upd_same,if_pos (by omega),hbp]
   ·rw [upd_ne e,upd_ne e]
    by_cases hk:k<j
    ·rw [if_pos (by omega),if_pos hk]
    ·rw [if_neg (by omega),if_neg hk]
  rw [e1];exact ok.spawn h.body (by omega) (if_neg (by omega)) ho
end
end Par
end
section
namespace Par
open Go Go.Conc Go.ConcM Go.ConcN
theorem EZ {w w':World} {b:Nat} {c:Array Value} {e:TypeId} {fr:Nat×Nat} (h:w.heap[b]?=some (.cells c e fr)) (hs:xe w.heap[b]? w'.heap[b]?) (hc:∀k,w'.cell? ⟨b,k,none⟩=w.cell? ⟨b,k,none⟩):w'.heap[b]?=some (.cells c e fr):=by
 obtain ⟨c',h1,h2,_⟩:=hs c e fr h;rw [h1];congr 2;apply Array.ext_getElem?;intro i;have :=hc i;unfold World.cell? at this;rw [h,h1] at this;simpa using this
section
variable {B Sb ρ:Type} {C:EX B Sb} {inv:Nat->(Nat->Option B)->Sb->Prop} {rb:(Nat->Option B)->Sb->ρ} {lt:ρ->ρ->Prop} {n:Nat} {φ:Nat->Option (FT B)} {s:sV Sb} {pc:jV} {j:Nat} {idx:Nat->Nat} {ws:Nat->Option (FT B)}
theorem Zh (o:Option (FT B)):pre o<=1:=by
 cases o with
 |none=>simp [pre]
 |some T=>
  cases T with
  |st _ _=>simp [pre]
  |bd _ _=>simp [pre]
  |wg _ p=>cases p<;>simp [pre]
theorem Ky {f:Nat->Nat} (h:∀k,f k<=1):∀m,sm m f<=m
 |0=>aj _
 |m+1=>by
  have h1:=Ky h m;have h2:=h m;show sm m f+f m<=m+1;omega
theorem FI.vle (h:FI C inv n φ s pc j idx ws):s.v<=C.N:=by
 have hc:=h.cnt;have h1:sm j (λk=>pre (ws k))<=j:=Ky (λk=>Zh _) j;have h2:=h.jN
 by_cases hp:pc.pend=0
 ·omega
 ·have :pc.starts=true∧pc.pend=1:=by cases pc<;>simp_all [jV.pend,jV.starts]
  have :=h.jS this.1;omega
def qX (C:EX B Sb) (s:sV Sb):Prop:=s.jn=false∧C.body.free s.b
theorem FI.fits {syn:Nat->Prop} (ok:lT C.body C.N syn inv rb lt) (h:FI C inv n φ s pc j idx ws) {i:Nat} {T:FT B} (hφ:φ i=some T):GX C T s:=by
 cases T with
 |st p l=>
  obtain ⟨rfl,rfl,rfl⟩:=h.Ca hφ;have hv:=h.vle;cases p with
  |MR=>obtain ⟨_,_,a3,a4⟩:=h.yU rfl;exact ⟨hv,a3,a4⟩
  |w1 b=>obtain ⟨_,_,a3,a4⟩:=h.yU rfl;exact ⟨h.shB _ rfl,hv,a3,a4⟩
  |w2 v=>obtain ⟨_,_,a3,a4⟩:=h.yU rfl;exact ⟨(h.VZ _ rfl).2,(h.VZ _ rfl).1,hv,a3,a4⟩
  |w3=>
   rcases h.Kv rfl with x|x|x|x
   all_goals exact ⟨by omega,hv,by omega, λe=>⟨by omega,by omega⟩⟩
  |w4=>obtain ⟨_,_,a3,a4⟩:=h.yU rfl;exact ⟨h.XZ rfl,a3,a4⟩
  |ke=>obtain ⟨_,_,a3,a4⟩:=h.yU rfl;exact ⟨h.XZ rfl,a3,a4⟩
  |aq=>
   have hj:=h.jW rfl;refine ⟨λk hk=>?_,?_,h.lq (by simp)⟩
   ·rw [h.dn k (by omega),h.xU rfl (by omega)];rfl
   ·have hb:=h.body;rw [hj] at hb
    exact (ok.finish hb λk hk=>by
     show (if k<C.N then iR (ws k) else none)=none;rw [if_pos hk,h.xU rfl (by omega)];rfl).2
  |_=>trivial
 |bd k b=>
  obtain ⟨_,hk,_,hw⟩:=h.ku hφ;exact ⟨ok.fits h.body hk (by show (if k<j then iR (ws k) else none)=some b;rw [if_pos hk,hw];rfl),h.lq λe=>by rw [h.xU (by rw [e];rfl) hk] at hw;cases hw⟩
 |wg k p=>
  obtain ⟨_,hk,_,hw,hp⟩:=h.Qc hφ;have hc:=h.cnt;have p1:=xS (f:= λk=>pre (ws k)) hk;have p2:=xS (f:= λk=>yT (ws k)) hk;have p3:=xS (f:= λk=>x4 (ws k)) hk;simp only [hw,I4,wF,Ba] at p1 p2 p3;have hv:=h.vle
  have both:(sm j (λk=>yT (ws k))=0∧sm j (λk=>x4 (ws k))=0∧s.wt=0∧s.sm=0)∨((0<s.v∧s.wt=1∧s.sm=0∧sm j (λk=>yT (ws k))=0∧sm j (λk=>x4 (ws k))=0)∨(s.v=0∧s.wt=1∧s.sm=0∧sm j (λk=>yT (ws k))=1∧sm j (λk=>x4 (ws k))=0)∨
   (s.v=0∧s.wt=0∧s.sm=0∧sm j (λk=>yT (ws k))=0∧sm j (λk=>x4 (ws k))=1)∨(s.v=0∧s.wt=0∧s.sm=1∧sm j (λk=>yT (ws k))=0∧sm j (λk=>x4 (ws k))=0)):=by
   cases e:pc.waits with
   |false=>exact .inl (h.yU e)
   |true=>exact .inr (h.Kv e)
  generalize sm j (λk=>yT (ws k))=X at both p2;generalize sm j (λk=>x4 (ws k))=Y at both p3;generalize sm j (λk=>pre (ws k))=Z at hc p1;cases p<;>simp only [qZ.V4,qZ.n23,qZ.n4] at p1 p2 p3
  case wr=>exact h.lq λe=>by rw [h.xU (by rw [e];rfl) hk] at hw;cases hw
  case d1=>exact ⟨by omega,hv,by omega,by omega⟩
  case d2=>exact ⟨by omega,by omega,by omega⟩
  case d3=>exact ⟨by omega,by omega,by omega⟩
  case d4=>exact ⟨by omega,by omega,by omega⟩
  all_goals trivial
theorem Zi {a a' c c':Nat} {x y:ρ} (e1:a=a') (e2:c=c') (h:lt x y):FP lt (a,c,x) (a',c',y):=by subst e1 e2;exact ah8 h
theorem V6 (h:FI C inv n φ s pc j idx ws) {k:Nat} (hk:k<j) {s':sV Sb} {o:Option (FT B)} (h':FI C inv n (upd φ (idx k) o) s' pc j idx (upd ws k o)):Par.Ze (upd φ (idx k) o)=upd (λk=>if k<j then iR (ws k) else none) k (iR o):=by
 rw [h'.Ze];funext l
 by_cases e:l=k
 ·subst e;rw [upd_same,upd_same,if_pos hk]
 ·rw [upd_ne e,upd_ne e]
theorem Zj {syn:Nat->Prop} (ok:lT C.body C.N syn inv rb lt) (h:Kw C inv n φ s) {i:Nat} {T T':FT B} {s':sV Sb} (hi:i<n) (hφ:φ i=some T) (hblk:¬C.sys.blk T s) (hm:Qb C i T s T' s'):
 Kw C inv n (upd φ i (if C.sys.quit T' then none else some T')) s'∧FP lt (Tz C rb n (upd φ i (if C.sys.quit T' then none else some T')) s') (Tz C rb n φ s):=by
 obtain ⟨pc,j,idx,ws,h⟩:=h;cases hm with
 | @st p l s p' s' hm=>
   obtain ⟨rfl,rfl,rfl⟩:=h.Ca hφ;obtain ⟨h',hr⟩:=V3 h (λe hs=>hblk (by subst e;exact hs)) hm;refine ⟨⟨p',l,idx,ws,h'⟩,?_⟩;unfold Tz;refine TA ?_
   have e:(upd φ 0 (if C.sys.quit (.st p' l)=true then none else some (FT.st p' l))) 0=some (FT.st p' l):=by rw [upd_same];rfl
   rw [e,h.h0];exact hr
 | @bd k b s b' sb' hm=>
   obtain ⟨h0,hk,hx,hw⟩:=h.ku hφ;obtain ⟨h',hr⟩:=Om ok h hk hw hblk hm (T:=.bd k b') rfl;have hq:(if C.sys.quit (FT.bd k b')=true then none else some (FT.bd k b'))=some (FT.bd k b'):=rfl;rw [hq, <-hx];refine ⟨⟨pc,j,idx,_,h'⟩,?_⟩;unfold Tz;have hx0:(0:Nat)≠idx k:=by rw [hx];exact Ne.symm h0
   refine Zi ?_ ?_ ?_
   ·rw [upd_ne hx0,h.h0];rfl
   ·have :=zF (f:=sW) (g:=φ) (k:=idx k) (a:=some (FT.bd k b')) (n:=n) (by rw [hx];exact hi);rw [hx,hφ] at this;rw [hx];exact Nat.add_right_cancel this
   ·rw [V6 h hk h',h.Ze];exact hr b' rfl
 | @yS k b s sb' hm=>
   obtain ⟨h0,hk,hx,hw⟩:=h.ku hφ;obtain ⟨h',hr⟩:=Om ok h hk hw hblk hm (T:=.wg k .wr) rfl;have hq:(if C.sys.quit (FT.wg k .wr:FT B)=true then none else some (FT.wg k .wr))=some (FT.wg k .wr:FT B):=rfl;rw [hq, <-hx];refine ⟨⟨pc,j,idx,_,h'⟩,?_⟩;unfold Tz;have hx0:(0:Nat)≠idx k:=by rw [hx];exact Ne.symm h0
   refine X0 ?_ ?_
   ·rw [upd_ne hx0,h.h0];exact aj _
   ·have :=zF (f:=sW) (g:=φ) (k:=idx k) (a:=some (FT.wg k .wr)) (n:=n) (by rw [hx];exact hi);rw [hx,hφ] at this;rw [hx];have this:sm n (λi_1=>sW (upd φ i (some (FT.wg k qZ.wr)) i_1))+7=sm n (λi=>sW (φ i))+6:=this;omega
 | @wg k p s p' s' hm=>
   obtain ⟨h0,hk,hx,hw,_⟩:=h.Qc hφ;obtain ⟨⟨o,ho,h',hr⟩,hv⟩:=V5 h hk hw hm;have hq:(if C.sys.quit (FT.wg k p')=true then none else some (FT.wg k p'))=o:=ho.symm;rw [hq, <-hx];refine ⟨⟨pc,j,idx,_,h'⟩,?_⟩;unfold Tz;have hx0:(0:Nat)≠idx k:=by rw [hx];exact Ne.symm h0
   refine X0 ?_ ?_
   ·rw [upd_ne hx0,h.h0];exact Qd hv
   ·have :=zF (f:=sW) (g:=φ) (k:=idx k) (a:=o) (n:=n) (by rw [hx];exact hi);rw [hx,hφ] at this;rw [hw] at hr;rw [hx];omega
end
end Par
end
section
namespace Par
open Go Go.Conc Go.ConcM Go.ConcN
section
variable {B Sb ρ:Type} {C:EX B Sb} {inv:Nat->(Nat->Option B)->Sb->Prop} {rb:(Nat->Option B)->Sb->ρ} {lt:ρ->ρ->Prop} {n:Nat} {φ:Nat->Option (FT B)} {s:sV Sb} {pc:jV} {j:Nat} {idx:Nat->Nat} {ws:Nat->Option (FT B)}
theorem V7 {syn:Nat->Prop} (ok:lT C.body C.N syn inv rb lt) (h:Kw C inv n φ s) {T T' Tc:FT B} {s':sV Sb} (hφ:φ 0=some T) (hm:FSp C T s T' Tc s'):
 Kw C inv (n+1) (upd (upd φ 0 (some T')) n (some Tc)) s'∧FP lt (Tz C rb (n+1) (upd (upd φ 0 (some T')) n (some Tc)) s') (Tz C rb n φ s):=by
 obtain ⟨pc,j,idx,ws,h⟩:=h;have hn0:=h.n0
 have key:∀{l:Nat},l<C.N->(eO C (l+1)).rank C.N s.v (l+1)<jV.EW.rank C.N s.v l:= λ{l} hl=>by
  unfold eO;split<;>(simp [jV.rank];omega)
 have e0:∀{X:Option (FT B)},upd (upd φ 0 X) n (some Tc) 0=X:= λ{X}=>by rw [upd_ne (by omega),upd_same]
 cases hm with
 | @bd l _ b ho=>
   obtain ⟨_,rfl,rfl⟩:=h.Ca hφ;refine ⟨⟨_,_,_,_,Oo ok rfl h ho (T:=.bd l b) rfl⟩,?_⟩;unfold Tz;refine TA ?_
   rw [e0,h.h0];exact key (h.jS rfl)
 | @wg l _ ho=>
   obtain ⟨_,rfl,rfl⟩:=h.Ca hφ;refine ⟨⟨_,_,_,_,Oo ok rfl h ho (T:=.wg l .wr) rfl⟩,?_⟩;unfold Tz;refine TA ?_
   rw [e0,h.h0];exact key (h.jS rfl)
theorem ah9 (j:Nat):C.sys.Z 0 (.st (eO C j) j)=C.Zs j:=by unfold eO;split<;>rfl
theorem Qe (j:Nat):C.sys.deaf (.st (eO C j) j)=0:=by unfold eO;split<;>rfl
theorem TB (hC:A8 C) {syn:Nat->Prop} (ok:lT C.body C.N syn inv rb lt) (h:Kw C inv n φ s) {T T' Tc:FT B} {s':sV Sb} (hφ:φ 0=some T) (hm:FSp C T s T' Tc s'):
 Same C.sys (qX C) s s'∧C.sys.mo s≠none∧C.sys.deaf T=0∧C.sys.deaf T'=0∧C.sys.deaf Tc=0∧C.sys.past Tc=false∧C.sys.quit T'=false∧C.sys.quit Tc=false∧
 (∀b,(C.sys.Z 0 T').ro b->(C.sys.Z 0 T).ro b)∧(∀b,(C.sys.Z 0 T').sy b->(C.sys.Z 0 T).sy b)∧(∀b,(C.sys.Z n Tc).ro b->(C.sys.Z 0 T).ro b)∧(∀b,(C.sys.Z n Tc).sy b->(C.sys.Z 0 T).sy b)∧
 (∀b k,(C.sys.Z 0 T').cl b k->(C.sys.Z 0 T').sy b∧(C.sys.Z 0 T).cl b k)∧(∀b k,(C.sys.Z n Tc).cl b k->(C.sys.Z n Tc).sy b∧(C.sys.Z 0 T).cl b k∧¬(C.sys.Z 0 T').cl b k):=by
 obtain ⟨pc,j,idx,ws,h⟩:=h
 have main:∀{l:Nat} {Tc:FT B},l<C.N->s.jn=false->C.sys.deaf Tc=0->C.sys.past Tc=false->C.sys.quit Tc=false->C.sys.Z n Tc=C.Zw l->
  Same C.sys (qX C) s s∧C.sys.mo s≠none∧C.sys.deaf (.st .EW l)=0∧C.sys.deaf (.st (eO C (l+1)) (l+1))=0∧C.sys.deaf Tc=0∧C.sys.past Tc=false∧C.sys.quit (.st (eO C (l+1)) (l+1))=false∧C.sys.quit Tc=false∧
  (∀b,(C.sys.Z 0 (.st (eO C (l+1)) (l+1))).ro b->(C.sys.Z 0 (.st .EW l)).ro b)∧(∀b,(C.sys.Z 0 (.st (eO C (l+1)) (l+1))).sy b->(C.sys.Z 0 (.st .EW l)).sy b)∧(∀b,(C.sys.Z n Tc).ro b->(C.sys.Z 0 (.st .EW l)).ro b)∧(∀b,(C.sys.Z n Tc).sy b->(C.sys.Z 0 (.st .EW l)).sy b)∧
  (∀b k,(C.sys.Z 0 (.st (eO C (l+1)) (l+1))).cl b k->(C.sys.Z 0 (.st (eO C (l+1)) (l+1))).sy b∧(C.sys.Z 0 (.st .EW l)).cl b k)∧(∀b k,(C.sys.Z n Tc).cl b k->(C.sys.Z n Tc).sy b∧(C.sys.Z 0 (.st .EW l)).cl b k∧¬(C.sys.Z 0 (.st (eO C (l+1)) (l+1))).cl b k):=by
  intro l Tc hl hj d1 d2 d3 d4;refine ⟨⟨rfl,rfl,Iff.rfl, λ_ _ x=>x, λ_ _ _ x=>x⟩,by show (if s.jn then none else some (ConcR.stA C.Wg))≠none;rw [hj];simp,rfl,Qe _,d1,d2,rfl,d3,?_⟩;rw [ah9,d4];refine ⟨λb x=>x, λb x=>x, λb x=>x, λb x=>x, λb i x=>?_, λb i x=>?_⟩
  ·obtain ⟨k,k1,k2,k3⟩:=x;exact ⟨.inr (hC.cl k b i k2 k3),k,by omega,k2,k3⟩
  ·refine ⟨.inr (hC.cl l b i hl x),⟨l,aj _,hl,x⟩, λ⟨k,k1,k2,k3⟩=>?_⟩;have :=hC.XX k l b i k3 x;omega
 cases hm with
 | @bd l _ b ho=>
   obtain ⟨_,rfl,rfl⟩:=h.Ca hφ;exact main (h.jS rfl) (h.lq (by simp)) (ok.Kt _ _ ho) rfl rfl rfl
 | @wg l _ ho=>
   obtain ⟨_,rfl,rfl⟩:=h.Ca hφ;exact main (h.jS rfl) (h.lq (by simp)) rfl rfl rfl rfl
theorem FI.qF (h:FI C inv n φ s pc j idx ws) {k:Nat} {b:B} (hk:k<j) (hw:ws k=some (.bd k b)):(λk=>if k<j then iR (ws k) else none) k=some b:=by
 show (if k<j then iR (ws k) else none)=some b;rw [if_pos hk,hw];rfl
theorem Zk {syn:Nat->Prop} (ok:lT C.body C.N syn inv rb lt) (h:Kw C inv n φ s) {i:Nat} {T T':FT B} {s':sV Sb} (hφ:φ i=some T) (hblk:¬C.sys.blk T s) (hw:C.sys.wakes T=false) (hm:Qb C i T s T' s') {l:Nat} {Tl:FT B} (hl:l≠i) (TC:φ l=some Tl) (hb:C.sys.blk Tl s):C.sys.blk Tl s':=by
 obtain ⟨pc,j,idx,ws,h⟩:=h;cases hm with
 | @st p q s p' s' hm=>
   obtain ⟨rfl,rfl,rfl⟩:=h.Ca hφ;have e:s'.b=s.b:=by cases hm<;>rfl
   cases Tl with
   |st p2 q2=>exact absurd (h.Ca TC).1 hl
   |bd k b=>show C.body.blk b s'.b;rw [e];exact hb
   |wg _ _=>exact hb.elim
 | @bd k b s b' sb' hm=>
   obtain ⟨_,hk,hx,hwk⟩:=h.ku hφ;cases Tl with
   |st p2 q2=>cases p2<;>first |exact hb|exact hb.elim
   |bd k2 b2=>
    obtain ⟨_,hk2,hx2,hw2⟩:=h.ku TC;have hne:k2≠k:= λe=>hl (by rw [<-hx2, <-hx,e])
    exact ok.stay h.body hk (h.qF hk hwk) hblk hw hm k2 b2 hk2 hne (h.qF hk2 hw2) hb
   |wg _ _=>exact hb.elim
 | @yS k b s sb' hm=>
   obtain ⟨_,hk,hx,hwk⟩:=h.ku hφ;cases Tl with
   |st p2 q2=>cases p2<;>first |exact hb|exact hb.elim
   |bd k2 b2=>
    obtain ⟨_,hk2,hx2,hw2⟩:=h.ku TC;have hne:k2≠k:= λe=>hl (by rw [<-hx2, <-hx,e])
    exact ok.stay h.body hk (h.qF hk hwk) hblk hw hm k2 b2 hk2 hne (h.qF hk2 hw2) hb
   |wg _ _=>exact hb.elim
 | @wg k p s p' s' hm=>
   have e:s'.b=s.b:=by cases hm<;>rfl
   cases Tl with
   |st p2 q2=>
    have e2:p≠ .d4->s'.sm=s.sm:= λhp=>by cases hm<;>first |rfl|exact absurd rfl hp
    have hp:p≠ .d4:= λx=>by subst x;cases hw
    cases p2<;>first |exact hb.elim|(show s'.sm=0;rw [e2 hp];exact hb)
   |bd k b=>show C.body.blk b s'.b;rw [e];exact hb
   |wg _ _=>exact hb.elim
theorem V8 {syn:Nat->Prop} (ok:lT C.body C.N syn inv rb lt) (h:Kw C inv n φ s):∃i T,i<n∧φ i=some T∧¬C.sys.blk T s:=by
 obtain ⟨pc,j,idx,ws,h⟩:=h
 by_cases hwg:∃k p,k<j∧ws k=some (.wg k p)
 ·obtain ⟨k,p,hk,hw⟩:=hwg;exact ⟨idx k,.wg k p,(h.ij k hk).2,by rw [h.at' k hk];exact hw, λx=>x⟩
 by_cases hbd:∃k b,k<j∧ws k=some (.bd k b)
 ·obtain ⟨k,b,hk,hw⟩:=hbd;obtain ⟨k,b,hk,FR,hnb⟩:=ok.alive h.body ⟨k,b,hk,h.qF hk hw⟩;have FR:(if k<j then iR (ws k) else none)=some b:=FR;rw [if_pos hk] at FR
  have hw:ws k=some (.bd k b):=by
   cases hT:ws k with
   |none=>rw [hT] at FR;cases FR
   |some T=>
    rcases h.who k T hk hT with ⟨b',rfl⟩|⟨p,rfl,_⟩
    ·rw [hT] at FR;have :b'=b:=aD FR;rw [this]
    ·rw [hT] at FR;cases FR
  exact ⟨idx k,.bd k b,(h.ij k hk).2,by rw [h.at' k hk];exact hw,hnb⟩
 ·have hno:∀k,k<j->ws k=none:= λk hk=>by
   cases hT:ws k with
   |none=>rfl
   |some T=>
    rcases h.who k T hk hT with ⟨b,rfl⟩|⟨p,rfl,_⟩
    ·exact absurd ⟨k,b,hk,hT⟩ hbd
    ·exact absurd ⟨k,p,hk,hT⟩ hwg
  refine ⟨0,_,h.n0,h.h0, λhb=>?_⟩;cases pc with
  |w3=>
   have hb:s.sm=0:=hb
   have z:∀f:Option (FT B)->Nat,f none=0->sm j (λk=>f (ws k))=0:= λf hf=>by
    apply aM;intro hne;obtain ⟨k,hk,hp⟩:=XY (f:= λk=>f (ws k)) (n:=j) (by omega);rw [hno k hk,hf] at hp;omega
   have hc:=h.cnt;rw [z pre rfl] at hc;have hw:=h.Kv rfl;rw [z yT rfl,z x4 rfl] at hw;simp [jV.pend] at hc;omega
  |_=>exact hb
theorem TD {syn:Nat->Prop} (ok:lT C.body C.N syn inv rb lt) (h:Kw C inv n φ s) {i:Nat} {T T':FT B} {s':sV Sb} (hφ:φ i=some T) (hm:Qb C i T s T' s'):C.sys.deaf T'=Kind.iI (C.sys.deaf T) (C.sys.kind T):=by
 obtain ⟨pc,j,idx,ws,h⟩:=h;cases hm with
 | @st p q s p' s' hm=>
   show p'.deaf=Kind.iI p.deaf p.kind;cases hm<;>first |rfl|(split<;>rfl)
 | @bd k b s b' sb' hm=>
   obtain ⟨_,hk,hx,hwk⟩:=h.ku hφ;exact (ok.iI h.body hk (h.qF hk hwk) hm).symm
 | @yS k b s sb' hm=>
   obtain ⟨_,hk,hx,hwk⟩:=h.ku hφ;exact (ok.iI h.body hk (h.qF hk hwk) hm).symm
 | @wg k p s p' s' hm=>
   show p'.deaf=Kind.iI p.deaf p.kind;cases hm<;>first |rfl|(split<;>rfl)
theorem V9 {syn:Nat->Prop} (ok:lT C.body C.N syn inv rb lt) (h:Kw C inv n φ s) {i:Nat} {T T':FT B} {s':sV Sb} (hφ:φ i=some T) (hm:Qb C i T s T' s') (hk:(C.sys.kind T).plain=true):Same C.sys (qX C) s s'∧C.sys.Z i T'=C.sys.Z i T∧C.sys.past T'=C.sys.past T:=by
 obtain ⟨pc,j,idx,ws,h⟩:=h;cases hm with
 | @st p q s p' s' hm=>
   have hk:p.kind.plain=true:=hk
   have main:∀s':sV Sb,s'.jn=s.jn->s'.b=s.b->s'.dn=s.dn->Same C.sys (qX C) s s':= λs' e1 e2 e3=>
    ⟨by show (if s'.jn then none else C.body.dZ)=_;rw [e1];rfl,by show (if s'.jn then none else some (ConcR.stA C.Wg))=_;rw [e1];rfl,by unfold qX;rw [e1,e2], λG w x=>by show C.body.J s'.b G w;rw [e2];exact x, λD Dc w x=>by show s'.jn=true∨C.Dp s'.dn D Dc w;rw [e1,e3];exact x⟩
   cases hm<;>first |exact ⟨main _ rfl rfl rfl,rfl,rfl⟩|(split<;>exact ⟨main _ rfl rfl rfl,rfl,rfl⟩)|cases hk
 | @bd k b s b' sb' hm=>
   obtain ⟨_,hkj,hx,hwk⟩:=h.ku hφ;obtain ⟨a1,a2⟩:=ok.plain h.body hkj (h.qF hkj hwk) hm hk;exact ⟨⟨rfl,rfl,by unfold qX;exact and_congr Iff.rfl a1,a2, λ_ _ _ x=>x⟩,rfl,rfl⟩
 | @yS k b s sb' hm=>
   obtain ⟨_,hkj,hx,hwk⟩:=h.ku hφ;obtain ⟨a1,a2⟩:=ok.plain h.body hkj (h.qF hkj hwk) hm hk;exact ⟨⟨rfl,rfl,by unfold qX;exact and_congr Iff.rfl a1,a2, λ_ _ _ x=>x⟩,rfl,rfl⟩
 | @wg k p s p' s' hm=>
   have hk:p.kind.plain=true:=hk
   have main:∀s':sV Sb,s'.jn=s.jn->s'.b=s.b->s'.dn=s.dn->Same C.sys (qX C) s s':= λs' e1 e2 e3=>
    ⟨by show (if s'.jn then none else C.body.dZ)=_;rw [e1];rfl,by show (if s'.jn then none else some (ConcR.stA C.Wg))=_;rw [e1];rfl,by unfold qX;rw [e1,e2], λG w x=>by show C.body.J s'.b G w;rw [e2];exact x, λD Dc w x=>by show s'.jn=true∨C.Dp s'.dn D Dc w;rw [e1,e3];exact x⟩
   cases hm<;>first |exact ⟨main _ rfl rfl rfl,rfl,rfl⟩|(split<;>exact ⟨main _ rfl rfl rfl,rfl,rfl⟩)|cases hk
end
end Par
end
