/- Part 15. -/
import Derived.Conc.JoinWorld
import Derived.Conc.CrowdSpec
import Derived.Test.YtnemnkmojiljmaaGreatB14
set_option maxRecDepth 100000
set_option maxHeartbeats 0
set_option linter.all false
namespace Par
open Go Go.Conc Go.ConcM Go.ConcN
section
variable {O:Nat->Prop}
section
variable {T Sh ρ:Type} {P:Program} {S:Sys T Sh} {AI:Nat->(Nat->Option T)->Sh->Prop} {free:Sh->Prop} {rk:Nat->(Nat->Option T)->Sh->ρ} {lt:ρ->ρ->Prop}
theorem Gr.running {main:Bool} {Z:gB} {Stop:(Nat->Prop)->Goroutine->World->Prop} (hst:∀own g W,Stop own g W->g.status= .running) {tr:Tr} {own:Nat->Prop} {g:Goroutine} {W:World} (h:Gr P main Z Stop tr own g W):g.status= .running:=by
 cases tr with
 |leaf=>exact hst _ _ _ (h W (dZ.refl W))
 |node f=>exact h.1
theorem lH {i:Nat} {Tt:T} {own:Nat->Prop} {g:Goroutine} {W:World} (h:At P S i Tt own g W):g.status= .running:=h.law.1
theorem I5 {i:Nat} {Tt:T} {own:Nat->Prop} {g:Goroutine} {W:World} (h:At P S i Tt own g W) {s:Sh} (hb:S.blk Tt s):g.offers=none:=h.law.2.1 ⟨s,hb⟩
theorem Pg {Z:gB} {own:Nat->Prop} (w:World) (d:Nat):dZ Z own w (w.at d):=⟨rfl,rfl,OsLater.refl _,aJ _, λ_ _=>rfl, λ_ _=>rfl, λ_ _=>yE.refl _, λ_ _ _=>rfl⟩
theorem zg {gs:Array Goroutine} {i j:Nat} {f:Goroutine->Goroutine} {g' gj:Goroutine} (h:((gs.map f).setIfInBounds i g')[j]?=some gj):(j=i∧gj=g'∧i<gs.size)∨(j≠i∧∃g0,gs[j]?=some g0∧gj=f g0):=by
 by_cases e:i=j
 ·subst e;have hlt:=(aI.1 h).1;simp only [Array.size_setIfInBounds,Array.size_map] at hlt;rw [aD (by simpa using hlt)] at h;exact .inl ⟨rfl,(aU h).symm,hlt⟩
 ·rw [au e,aG] at h;cases hg:gs[j]? with
  |none=>rw [hg] at h;cases h
  |some g0=>rw [hg] at h;exact .inr ⟨Ne.symm e,g0,rfl,(aU h).symm⟩
theorem I6 {w w2:World} {t:Trace} {s:Sh} {γ:Gh} {j:Nat} {gj g g':Goroutine} {Cs:TS T} (h:One P S w t s γ j gj Cs):One P S w t s γ j (woken P g g' w2 gj) Cs:=by
 cases Cs with
 |lv k d=>obtain ⟨h1,h2⟩:=h;exact ⟨by rw [woken_quitsD h1];exact h1,h2⟩
 |gP x=>
  obtain ⟨h1,h2,h3⟩:=h;have hrun:x.g.status= .running:=h2.running λ_ _ _=>lH
  refine ⟨?_,h2,h3⟩;rcases h1 with rfl|⟨hl,hb,rfl⟩
  ·left;unfold woken;split
   ·exact again_running _ (.inl hrun)
   ·rfl
  ·have hoff:x.g.offers=none:=by
    rw [hl] at h2;exact I5 (h2 x.W (dZ.refl _)) hb
   unfold woken;split
   ·exact .inl (again_blocked hrun hoff _)
   ·exact .inr ⟨hl,hb,rfl⟩
theorem Uj {Z:gB} {own:Nat->Prop} {es:Array Event} (h:∀e∈es,QB Z own e):∀e∈es,e.loc≠ .mark .disable∧e.loc≠ .mark .enable:=by
 intro e he;have :=(h e he).2;obtain ⟨loc,wr,sy⟩:=e;cases loc with
 |mark m=>
  have hm:m= .noRoom:=this;subst hm;exact ⟨by simp,by simp⟩
 |_=>exact ⟨by simp,by simp⟩
theorem QM {w w':World} {t u:Trace} {s:Sh} {γ:Gh} {i j:Nat} {gj:Goroutine} {Cs:TS T} {Z:gB} {own:Nat->Prop} (hj:j≠i) (hu:∀op∈u,op.g=i) (hB:γ.B=w.heap.size) (hR:gJ γ w.heap.size i Z own) (hg:vX Z own w w')
 (h:One P S w t s γ j gj Cs):One P S w' (t++u) s (grown γ i w'.heap.size) j gj Cs:=by
 cases Cs with
 |lv k d=>
  obtain ⟨h1,h2,h3,h4⟩:=h;exact ⟨h1,by rw [Deaf_other t (Ne.symm hj) u hu];exact h2,h3,h4⟩
 |gP x=>
  obtain ⟨h1,h2,h3,h4,h5,h6,h7⟩:=h;have hk:=gJ.keep (i:=i) (n':=w'.heap.size) (by rw [hB];exact h7) (by rw [hB];exact hg.size);exact ⟨h1,h2,h3.trans (hR.rely h7 (Ne.symm hj) hg),by rw [Deaf_other t (Ne.symm hj) u hu];exact h4,h5,h6,hk⟩
theorem MI.at {gs:Array Goroutine} {w:World} {t:Trace} {θ:Nat->TS T} {s:Sh} {γ:Gh} {G D:Nat->Prop} {Dc:Nat->Nat->Prop} (ok:uQ S AI free rk lt) (h:MI P S AI free O gs w t θ s γ G D Dc) (d:Nat):MI P S AI free O gs (w.at d) t θ s γ G D Dc:=by
 refine ⟨λi g hi=>?_,h.main,h.pos,h.ai,ok.I4 s w d h.rep,h.ti,h.B,h.nums,h.syn,h.yH,h.memo,h.Cr,h.jn,h.gq,h.nW, λhf=>⟨ok.zf s G w (w.at d) (h.lk hf).1 λ_ _=>rfl,(h.lk hf).2⟩,ok.Cq s D Dc w (w.at d) h.dn.1 (λ_ _=>rfl) (λ_ _ _=>rfl),h.dn.2⟩;have :=h.one i g hi;cases xS:θ i with
 |lv k d=>rw [xS] at this;exact this
 |gP x=>
  rw [xS] at this;obtain ⟨h1,h2,h3,h4,h5,h6,h7⟩:=this;exact ⟨h1,h2,h3.trans (Pg w d),h4,h5,h6,h7⟩
theorem zh {t:Trace} {n i:Nat} (h:∀op∈t,op.g<n) (hi:i<n) (fn:FuncId) (pos:String) (es:Array Event):∀op∈t++MemOp.ofEvents i fn pos es,op.g<n:=by
 intro op hop;rcases Array.mem_append.1 hop with hop|hop
 ·exact h op hop
 ·obtain ⟨e,_,rfl⟩:=mem_ofEvents hop;exact hi
theorem MI.private {gs:Array Goroutine} {w:World} {t:Trace} {θ:Nat->TS T} {s:Sh} {γ:Gh} {G D:Nat->Prop} {Dc:Nat->Nat->Prop} (ok:uQ S AI free rk lt) (h:MI P S AI free O gs w t θ s γ G D Dc)
 {i:Nat} {g:Goroutine} (hi:gs[i]?=some g) {x:Ui T} (hx:θ i= .gP x) {f:World->Tr} (htr:x.tr= .node f):
 ∃g' w' es,stepG P (i==0) g w= .go g' w' es∧MI P S AI free O ((gs.map (woken P g g' w')).setIfInBounds i g') w' (t++MemOp.ofEvents i g.frame.fn g.frame.place es)
  (upd θ i (.gP { x with own:=grow x.own w w',g:=g',W:=w',tr:=f w })) s (grown γ i w'.heap.size) G D Dc:=by
 have h1:=h.one i g hi;rw [hx] at h1;obtain ⟨hgx,Ph,Gf,nT,oG,Dx,eT⟩:=h1
 have hgx:g=x.g:=by
  rcases hgx with e|⟨e,_⟩
  ·exact e
  ·rw [htr] at e;cases e
 subst hgx;have hlt:=(aI.1 hi).1
 have hact:(i=0∨γ.act i)∨(S.Z i x.Tt).mute:=by
  by_cases h0:i=0
  ·exact .inl (.inl h0)
  ·cases hp:S.past x.Tt with
   |false=>exact .inl (.inr ((Dx h0).2 hp))
   |true=>
    have hφ:stops θ i=some x.Tt:=by unfold stops;rw [hx];rfl
    exact .inr ((ok.J3 h.ai hlt hφ).1 hp).2.1
 rw [htr] at Ph;obtain ⟨hrun,hstep⟩:=Ph;obtain ⟨g',w',es,hgo,rQ,hev,hnext⟩:=hstep w Gf;have hu:∀op∈MemOp.ofEvents i x.g.frame.fn x.g.frame.place es,op.g=i:= λop hop=>by obtain ⟨e,_,rfl⟩:=mem_ofEvents hop;rfl
 have hkeep:∀b,b<w.heap.size->¬x.own b->¬(S.Z i x.Tt).sy b->w'.heap[b]?=w.heap[b]?:= λb h1 h2 h3=>rQ.rest b h1 h2 h3
 have Xg:∀b,γ.who (.obj b)≠ .gP i->¬x.own b:= λb hb ho=>hb (eT.nX ho)
 have Wl:∀b,γ.who (.obj b)≠ .sy->γ.who (.obj b)≠ .pt->¬(S.Z i x.Tt).sy b:= λb hb hb' ho=>(eT.sy b ho).2.elim hb hb'
 refine ⟨g',w',es,hgo,⟨λj gj hj=>?_,?_,?_,?_,?_,?_,?_,?_, λb hb=>?_, λl hl=>?_, λl hl=>?_, λk hk=>?_, λhj l hl hns=>?_,h.gq,h.nW, λhf=>?_,?_⟩⟩
 ·rcases zg hj with ⟨rfl,rfl,_⟩|⟨hne,g0,hg0,rfl⟩
  ·rw [upd_same];exact ⟨.inl rfl,hnext,dZ.refl _,by rw [Deaf_own,deafBehind_still (Uj hev)];exact nT,oG,Dx,eT.grow h.B rQ.size⟩
  ·rw [upd_ne hne];exact QM hne hu h.B eT rQ (I6 (h.one j g0 hg0))
 ·obtain ⟨y,hy⟩:=h.main
  by_cases h0:(0:Nat)=i
  ·subst h0;exact ⟨_,upd_same ..⟩
  ·exact ⟨y,by rw [upd_ne h0];exact hy⟩
 ·simpa using h.pos
 ·have e:stops (upd θ i (.gP { x with own:=grow x.own w w',g:=g',W:=w',tr:=f w }))=stops θ:=by
   funext j;unfold stops
   by_cases hj:j=i
   ·subst hj;rw [upd_same,hx];rfl
   ·rw [upd_ne hj]
  rw [e];simpa using h.ai
 ·refine ok.zH s w w' h.rep λb hb=>?_
  obtain ⟨h1,h2⟩:=h.syn b (.inl hb);have hw:=h2 (.obj b) trivial rfl
  by_cases hz:(S.Z i x.Tt).sy b
  ·refine ⟨(rQ.sy b hz).1, λk=>(rQ.sy b hz).2 k λhc=>?_⟩;have :=((eT.cl b k hc).2.2 ⟨b,k,none⟩ rfl rfl).symm.trans (h2 (.cell ⟨b,k,none⟩) trivial rfl);cases this
  ·have :=hkeep b h1 (Xg b (by rw [hw];simp)) hz;refine ⟨by rw [this];exact yE.refl _, λk=>?_⟩;unfold World.cell?;simp only [this]
 ·exact h.ti.private eT h.B rQ.size oG hact hev _ _
 ·rfl
 ·simpa using zh h.nums hlt _ _ _
 ·obtain ⟨h1,h2⟩:=h.syn b hb;exact ⟨aK h1 rQ.size, λl hl e=>by rw [jw λ_=>by rw [e,h.B];exact h1];exact h2 l hl e⟩
 ·rw [jw λhm=>absurd hm hl];exact h.yH l hl
 ·rcases bu (lb l) γ.B with hlt'|hge
  ·rw [jw λ_=>hlt'];exact h.memo l hl
  ·rw [Dw hl hge];exact ⟨by simp,by simp⟩
 ·simpa using h.Cr k hk
 ·rcases bu (lb l) γ.B with hlt'|hge
  ·rw [jw λ_=>hlt'];exact h.jn hj l hl hns
  ·rw [Dw hl hge]
   have h0:i=0:=by
    apply bq;intro h0;have :=ok.joined h.ai hj i hlt h0;unfold stops at this;rw [hx] at this;cases this
   rw [h0]
 ·obtain ⟨h1,h2⟩:=h.lk hf;refine ⟨ok.zf s G w w' h1 λb hb=>?_, λb hb=>⟨aK (h2 b hb).1 rQ.size, λl hl e=>?_⟩⟩
  ·have hw:=(h2 b hb).2 (.obj b) trivial rfl;exact hkeep b (h2 b hb).1 (Xg b (by rw [hw];simp)) (Wl b (by rw [hw];simp) (by rw [hw];simp))
  ·rw [jw λ_=>by rw [e,h.B];exact (h2 b hb).1];exact (h2 b hb).2 l hl e
 ·obtain ⟨h1,h2,h3⟩:=h.dn;refine ⟨ok.Cq s D Dc w w' h1 (λb hb=>?_) (λb k hb=>?_), λb hb=>⟨aK (h2 b hb).1 rQ.size, λl hl e=>?_⟩, λb k hb=>⟨aK (h3 b k hb).1 rQ.size,?_, λa e1 e2=>?_⟩⟩
  ·have hw:=(h2 b hb).2 (.obj b) trivial rfl;exact hkeep b (h2 b hb).1 (Xg b (by rw [hw];simp)) (Wl b (by rw [hw];simp) (by rw [hw];simp))
  ·obtain ⟨g1,g2,g3⟩:=h3 b k hb
   by_cases hz:(S.Z i x.Tt).sy b
   ·refine (rQ.sy b hz).2 k λhc=>?_
    have :=((eT.cl b k hc).2.2 ⟨b,k,none⟩ rfl rfl).symm.trans (g3 ⟨b,k,none⟩ rfl rfl);cases this
   ·have :=hkeep b g1 (Xg b (by rw [g2];simp)) hz;unfold World.cell?;simp only [this]
  ·rw [jw λ_=>by rw [e,h.B];exact (h2 b hb).1];exact (h2 b hb).2 l hl e
  ·rw [jw (l:=.obj b) λ_=>by rw [h.B];exact (h3 b k hb).1];exact (h3 b k hb).2.1
  ·rw [jw (l:=.cell a) λ_=>by rw [h.B];show a.block<_;rw [e1];exact (h3 b k hb).1];exact (h3 b k hb).2.2 a e1 e2
theorem QN {w:World} {t u:Trace} {s:Sh} {γ:Gh} {i j:Nat} {gj:Goroutine} {Cs:TS T} (hj:j≠i) (hu:∀op∈u,op.g=i) (h:One P S w t s γ j gj Cs):One P S w (t++u) s γ j gj Cs:=by
 cases Cs with
 |lv k d=>
  obtain ⟨h1,h2,h3,h4⟩:=h;exact ⟨h1,by rw [Deaf_other t (Ne.symm hj) u hu];exact h2,h3,h4⟩
 |gP x=>
  obtain ⟨h1,h2,h3,h4,h5,h6,h7⟩:=h;exact ⟨h1,h2,h3,by rw [Deaf_other t (Ne.symm hj) u hu];exact h4,h5,h6,h7⟩
theorem Ct {e:Event} (h:e.mute=true) (a:Addr):MemAct.ofEvent e≠ .mark (.release a):=by
 obtain ⟨loc,wr,sy⟩:=e;cases loc<;>simp_all [Event.mute];rename_i m;cases m<;>simp_all [MemAct.ofEvent]
theorem MI.leaver {gs:Array Goroutine} {w:World} {t:Trace} {θ:Nat->TS T} {s:Sh} {γ:Gh} {G D:Nat->Prop} {Dc:Nat->Nat->Prop} (h:MI P S AI free O gs w t θ s γ G D Dc)
 {i:Nat} {g:Goroutine} (hi:gs[i]?=some g) {k d:Nat} (hx:θ i= .lv k d) (hrun:g.status= .running):
 ∃k' d' g' es,k=k'+1∧stepG P (i==0) g w= .go g' w es∧MI P S AI free O ((gs.map (woken P g g' w)).setIfInBounds i g') w (t++MemOp.ofEvents i g.frame.fn g.frame.place es) (upd θ i (.lv k' d')) s γ G D Dc:=by
 have h1:=h.one i g hi;rw [hx] at h1;obtain ⟨hq,hd,h0,hna⟩:=h1;have hlt:=(aI.1 hi).1;have e0:(i==0)=false:=by simpa using h0
 cases k with
 |zero=>rw [hq.1] at hrun;cases hrun
 |succ k=>
  rcases hq with ⟨hq,_⟩|⟨_,g',es,hm,hst,hq⟩
  ·rw [hq] at hrun;cases hrun
  ·have hu:∀op∈MemOp.ofEvents i g.frame.fn g.frame.place es,op.g=i:= λop hop=>by obtain ⟨e,_,rfl⟩:=mem_ofEvents hop;rfl
   refine ⟨k,deafBehind d es,g',es,rfl,by rw [e0];exact hst w,⟨λj gj hj=>?_,?_,by simpa using h.pos,?_,h.rep,?_,h.B,by simpa using zh h.nums hlt _ _ _,h.syn,h.yH,h.memo, λk hk=>by simpa using h.Cr k hk,h.jn,h.gq,h.nW,h.lk,h.dn⟩⟩
   ·rcases zg hj with ⟨rfl,rfl,_⟩|⟨hne,g0,hg0,rfl⟩
    ·rw [upd_same];exact ⟨hq,by rw [Deaf_own,hd],h0,hna⟩
    ·rw [upd_ne hne];exact QN hne hu (I6 (h.one j g0 hg0))
   ·obtain ⟨y,hy⟩:=h.main;exact ⟨y,by rw [upd_ne (Ne.symm h0)];exact hy⟩
   ·have e:stops (upd θ i (.lv k (deafBehind d es)))=stops θ:=by
     funext j;unfold stops
     by_cases hj:j=i
     ·subst hj;rw [upd_same,hx];rfl
     ·rw [upd_ne hj]
    rw [e];simpa using h.ai
   ·exact h.ti.NQ (λop hop=>by obtain ⟨e,he,rfl⟩:=mem_ofEvents hop;exact touch_mute (hm e he)) (λop hop a=>by obtain ⟨e,he,rfl⟩:=mem_ofEvents hop;exact Ct (hm e he) a)
theorem MI.waits {gs:Array Goroutine} {w:World} {t:Trace} {θ:Nat->TS T} {s:Sh} {γ:Gh} {G D:Nat->Prop} {Dc:Nat->Nat->Prop} (h:MI P S AI free O gs w t θ s γ G D Dc)
 {i:Nat} {x:Ui T} (hi:gs[i]?=some x.g) (hx:θ i= .gP x) (hl:x.tr= .leaf) (hb:S.blk x.Tt s):
 MI P S AI free O (gs.setIfInBounds i { x.g with status:=.blocked }) w t θ s γ G D Dc:=by
 refine ⟨λj gj hj=>?_,h.main,by simpa using h.pos,by simpa using h.ai,h.rep,h.ti,h.B,by simpa using h.nums,h.syn,h.yH,h.memo, λk hk=>by simpa using h.Cr k hk,h.jn,h.gq,h.nW,h.lk,h.dn⟩;have hj':((gs.map id).setIfInBounds i { x.g with status:=.blocked })[j]?=some gj:=by simpa using hj
 rcases zg hj' with ⟨rfl,rfl,_⟩|⟨hne,g0,hg0,hgj⟩
 ·have h1:=h.one j x.g hi;rw [hx] at h1 ⊢;obtain ⟨_,h2⟩:=h1;exact ⟨.inr ⟨hl,hb,rfl⟩,h2⟩
 ·have :gj=g0:=hgj;rw [this];exact h.one j g0 hg0
end
end
section
variable {O:Nat->Prop}
theorem Gg {t:Trace} {g:Nat}:∀(l:List MemOp),(∀op∈l,op.act≠ .mark .disable∧op.act≠ .mark .enable)->∀m,m<=l.length->(t++(⟨l⟩:Trace)).deaf g (t.size+m)=Deaf t g:=by
 intro l hl m
 induction m with
 |zero=>intro _;exact deaf_old (aJ _)
 |succ m ih=>
  intro hm;have hlt:m<l.length:=by omega
  have hget:(t++(⟨l⟩:Trace))[t.size+m]?=some l[m]:=by
   rw [Array.getElem?_append_right (by omega)];simp [hlt]
  rw [<-Nat.add_assoc,deaf_succ hget,ih (by omega)];obtain ⟨h1,h2⟩:=hl l[m] (aY hlt);unfold deafStep;split
  ·rename_i h;exact absurd h h1
  ·rename_i h;exact absurd h h2
  ·rfl
section
variable {T Sh ρ:Type} {P:Program} {S:Sys T Sh} {AI:Nat->(Nat->Option T)->Sh->Prop} {free:Sh->Prop} {rk:Nat->(Nat->Option T)->Sh->ρ} {lt:ρ->ρ->Prop}
theorem QO {γ:Gh} {w w':World} {j:Nat} {Z:gB} {own:Nat->Prop} (zQ:∀b,S.syn b->b<w.heap.size∧∀l,fQ l->lb l=b->γ.who l= .sy) (h:gJ γ w.heap.size j Z own) (hst:eH S w w'):dZ Z own w w':=by
 refine ⟨hst.tape,hst.out,hst.os,by rw [hst.size];exact aJ _, λb hb=>hst.rest b λhs=>?_, λb hb=>hst.rest b λhs=>?_, λb hb=>?_, λb k hb=>?_⟩
 ·have :=((zQ b hs).2 (.obj b) trivial rfl).symm.trans (h.nX hb);cases this
 ·have :=((zQ b hs).2 (.obj b) trivial rfl).symm.trans (h.Uh hb);cases this
 ·by_cases hs:S.syn b
  ·exact hst.yE b hs
  ·rw [hst.rest b hs];exact yE.refl _
 ·have :¬S.syn b:= λhs=>by
   have :=((zQ b hs).2 (.cell ⟨b,k,none⟩) trivial rfl).symm.trans ((h.cl b k hb).2.2 ⟨b,k,none⟩ rfl rfl);cases this
  unfold World.cell?;simp only [hst.rest b this]
theorem gJ.size {γ:Gh} {n n':Nat} (e:n'=n) {i:Nat} {Z:gB} {own:Nat->Prop} (h:gJ γ n i Z own):gJ γ n' i Z own:=e ▸ h
theorem TI.QS {t:Trace} {γ:Gh} {i:Nat} {w:World} {s:Sh} {k:Kind} {es:Array Event} (h:TI γ t) (hB:γ.B=w.heap.size) (zQ:∀b,S.syn b->b<w.heap.size∧∀l,fQ l->lb l=b->γ.who l= .sy) (hno:∀l,¬fQ l->γ.who l= .fr)
 (hl:γ.live i) (hk:k.plain=true) (he:RZ S s k es) (hp:(i=0∨γ.act i)∨(k≠ .clock∧(k= .atomic->0<Deaf t i))) (hsaid:k= .said->i=0) (fn:FuncId) (pos:String):TI γ (t++MemOp.ofEvents i fn pos es):=by
 have marks:∀m:Mark,(∀a,m≠ .read a∧m≠ .write a∧m≠ .release a)->es= #[⟨.mark m,false,true⟩]->TI γ (t++MemOp.ofEvents i fn pos es):=by
  intro m hm e;subst e;refine h.NQ (λop hop=>?_) (λop hop a=>?_)
  ·obtain ⟨e,he,rfl⟩:=mem_ofEvents hop;simp at he;subst he;have :(MemAct.ofEvent ⟨.mark m,false,true⟩)= .mark m:=rfl;simp only [this];cases m<;>first |rfl|exact absurd rfl (hm _).1|exact absurd rfl (hm _).2.1
  ·obtain ⟨e,he,rfl⟩:=mem_ofEvents hop;simp at he;subst he;intro hx;have hx:MemAct.mark m= .mark (.release a):=hx;cases hx;exact (hm a).2.2 rfl
 have hg:∀op∈MemOp.ofEvents i fn pos es,op.g=i:= λop hop=>by obtain ⟨e,_,rfl⟩:=mem_ofEvents hop;rfl
 cases k with
 |disable=>exact marks .disable (λa=>⟨by simp,by simp,by simp⟩) he
 |enable=>exact marks .enable (λa=>⟨by simp,by simp,by simp⟩) he
 |atomic=>
  have he:∀e∈es,∃a,e.loc= .cell a∧e.sync=true∧S.syn a.block:=he
  have tch:∀op∈MemOp.ofEvents i fn pos es,∃a wr,op.act= .access ⟨.cell a,wr,true⟩∧S.syn a.block:=by
   intro op hop;obtain ⟨e,hem,rfl⟩:=mem_ofEvents hop;obtain ⟨a,h1,h2,h3⟩:=he e hem;obtain ⟨loc,wr,sy⟩:=e;simp only at h1 h2;subst h1 h2;exact ⟨a,wr,by cases wr<;>rfl,h3⟩
  have hrel:∀op∈MemOp.ofEvents i fn pos es,∀a,op.act≠ .mark (.release a):=by
   intro op hop a e;obtain ⟨b,wr,h1,_⟩:=tch op hop;rw [h1] at e;cases e
  rcases hp with hp|⟨_,hp⟩
  ·have :=h.app (B':=γ.B) (aJ _) hl hg (λop hop x hx=>?_) hp hrel
   ·exact this
   ·obtain ⟨a,wr,h1,h2⟩:=tch op hop;rw [h1] at hx;have :x=⟨.cell a,wr,.atomic⟩:=(aU hx).symm;subst this;exact ⟨.inr (.inr (.inl ⟨(zQ _ h2).2 _ trivial rfl,by simp,by simp⟩)), λ_=>by rw [hB];exact (zQ _ h2).1⟩
  ·refine h.Pe hl hg (λop hop x hx=>?_) (λp op hge hop hp' hc=>?_) hrel
   ·obtain ⟨a,wr,h1,h2⟩:=tch op hop;rw [h1] at hx;have :x=⟨.cell a,wr,.atomic⟩:=(aU hx).symm;subst this;exact ⟨(zQ _ h2).2 _ trivial rfl,rfl, λ_=>by rw [hB];exact (zQ _ h2).1⟩
   ·obtain ⟨a,wr,h1,h2⟩:=tch op hop;obtain ⟨x,hx,_,hor⟩:=hc;have hx':touchAt (t++MemOp.ofEvents i fn pos es) p=some x:=hx;rw [touchAt_of hp',h1] at hx';have :x=⟨.cell a,wr,.atomic⟩:=(aU hx').symm;subst this;rcases hor with hor|⟨g',hg1,hg2⟩
    ·exact hor rfl
    ·have hgi:g'=i:=by
      have :(t++MemOp.ofEvents i fn pos es).g? p=some op.g:=by simp [Trace.g?,hp']
      rw [this] at hg1;exact (aU hg1).symm.trans (hg op hop)
     subst hgi;have hd:=hp rfl;obtain ⟨m,rfl⟩:=Nat.exists_eq_add_of_le hge
     have hm:m<=(MemOp.ofEvents g' fn pos es).toList.length:=by
      have :=lt_size_of_getElem? hp';simp at this ⊢;omega
     have :=Gg (t:=t) (g:=g') (MemOp.ofEvents g' fn pos es).toList (λop hop=>?_) m hm
     ·rw [show (⟨(MemOp.ofEvents g' fn pos es).toList⟩:Trace)=MemOp.ofEvents g' fn pos es from rfl,hg2] at this;omega
     ·obtain ⟨a,wr,h1,_⟩:=tch op (by simpa using hop);rw [h1];exact ⟨by simp,by simp⟩
 |clock=>
  have he:∀e∈es,e.loc= .output:=he;rcases hp with hp|⟨hp,_⟩
  ·have :=h.app (B':=γ.B) (aJ _) hl hg (λop hop x hx=>?_) hp (λop hop a e=>?_)
   ·exact this
   ·obtain ⟨e,hem,rfl⟩:=mem_ofEvents hop;have :=he e hem;obtain ⟨loc,wr,sy⟩:=e;simp only at this;subst this
    have hx1:x.loc= .output:=by
     have :(MemAct.ofEvent ⟨.output,wr,sy⟩).touch?=some ⟨.output,wr,if sy then .atomic else .plain⟩:=by cases wr<;>cases sy<;>rfl
     rw [this] at hx;rw [<-aU hx]
    exact ⟨.inr (.inr (.inr ⟨by rw [hx1];exact hno _ (λx=>x),by rw [hx1];exact λx=>x⟩)), λhm=>by rw [hx1] at hm;exact hm.elim⟩
   ·obtain ⟨e',hem,rfl⟩:=mem_ofEvents hop;have :=he e' hem;obtain ⟨loc,wr,sy⟩:=e';simp only at this;subst this;cases wr<;>cases sy<;>cases e
  ·exact absurd rfl hp
 |sem=>
  obtain ⟨a,ha,rfl⟩:∃a:Addr,S.syn a.block∧es= #[⟨.mark .disable,false,true⟩,⟨.cell a,false,true⟩,⟨.cell a,true,true⟩,⟨.mark .enable,false,true⟩]:=he
  have e:t++MemOp.ofEvents i fn pos #[⟨.mark .disable,false,true⟩,⟨.cell a,false,true⟩,⟨.cell a,true,true⟩,⟨.mark .enable,false,true⟩]=
   ((t++ #[{ g:=i,fn:=fn,pos:=pos,act:=.mark .disable }])++ #[{ g:=i,fn:=fn,pos:=pos,act:=.access ⟨.cell a,false,true⟩ },{ g:=i,fn:=fn,pos:=pos,act:=.access ⟨.cell a,true,true⟩ }])++ #[{ g:=i,fn:=fn,pos:=pos,act:=.mark .enable }]:=by
   rw [ofEvents_eq];apply Array.ext';simp [MemAct.ofEvent]
  rw [e];have h1:TI γ (t++ #[{ g:=i,fn:=fn,pos:=pos,act:=.mark .disable }]):=h.still rfl (by simp)
  have hd1:Deaf (t++ #[{ g:=i,fn:=fn,pos:=pos,act:=.mark .disable }]) i=Deaf t i+1:=by
   rw [Deaf_push];unfold deafStep;simp
  refine TI.still ?_ rfl (by simp)
  generalize t++ #[{ g:=i,fn:=fn,pos:=pos,act:=.mark .disable }]=t1 at h1 hd1;refine h1.Pe hl (λop hop=>?_) (λop hop x hx=>?_) (λp op hge hop hp' hc=>?_) (λop hop b e=>?_)
  ·have :op= { g:=i,fn:=fn,pos:=pos,act:=.access ⟨.cell a,false,true⟩ }∨op= { g:=i,fn:=fn,pos:=pos,act:=.access ⟨.cell a,true,true⟩ }:=by simpa using hop
   rcases this with rfl|rfl<;>rfl
  ·have :op= { g:=i,fn:=fn,pos:=pos,act:=.access ⟨.cell a,false,true⟩ }∨op= { g:=i,fn:=fn,pos:=pos,act:=.access ⟨.cell a,true,true⟩ }:=by simpa using hop
   rcases this with rfl|rfl
   ·have :x=⟨.cell a,false,.atomic⟩:=(aU hx).symm;subst this;exact ⟨(zQ _ ha).2 _ trivial rfl,rfl, λ_=>by rw [hB];exact (zQ _ ha).1⟩
   ·have :x=⟨.cell a,true,.atomic⟩:=(aU hx).symm;subst this;exact ⟨(zQ _ ha).2 _ trivial rfl,rfl, λ_=>by rw [hB];exact (zQ _ ha).1⟩
  ·have two:op= { g:=i,fn:=fn,pos:=pos,act:=.access ⟨.cell a,false,true⟩ }∨op= { g:=i,fn:=fn,pos:=pos,act:=.access ⟨.cell a,true,true⟩ }:=by simpa using hop
   have og:op.g=i:=by rcases two with rfl|rfl<;>rfl
   obtain ⟨x,hx,_,hor⟩:=hc;have hx':touchAt (t1++ #[{ g:=i,fn:=fn,pos:=pos,act:=.access ⟨.cell a,false,true⟩ },{ g:=i,fn:=fn,pos:=pos,act:=.access ⟨.cell a,true,true⟩ }]) p=some x:=hx;rw [touchAt_of hp'] at hx'
   have hxk:x.kind= .atomic:=by
    rcases two with rfl|rfl
    ·rw [<-aU hx'];rfl
    ·rw [<-aU hx'];rfl
   rcases hor with hor|⟨g',hg1,hg2⟩
   ·exact hor hxk
   ·have hgi:g'=i:=by
     have :Trace.g? (t1++ #[{ g:=i,fn:=fn,pos:=pos,act:=.access ⟨.cell a,false,true⟩ },{ g:=i,fn:=fn,pos:=pos,act:=.access ⟨.cell a,true,true⟩ }]) p=some op.g:=by simp [Trace.g?,hp']
     rw [this] at hg1;exact (aU hg1).symm.trans og
    subst hgi;obtain ⟨m,rfl⟩:=Nat.exists_eq_add_of_le hge
    have hm:m<= [({ g:=g',fn:=fn,pos:=pos,act:=.access ⟨.cell a,false,true⟩ }:MemOp),{ g:=g',fn:=fn,pos:=pos,act:=.access ⟨.cell a,true,true⟩ }].length:=by
     have :=lt_size_of_getElem? hp';simp at this ⊢;omega
    have :=Gg (t:=t1) (g:=g') [({ g:=g',fn:=fn,pos:=pos,act:=.access ⟨.cell a,false,true⟩ }:MemOp),{ g:=g',fn:=fn,pos:=pos,act:=.access ⟨.cell a,true,true⟩ }] (λop hop=>by simp at hop;rcases hop with rfl|rfl<;>simp) m hm;rw [hg2,hd1] at this;omega
  ·have :op= { g:=i,fn:=fn,pos:=pos,act:=.access ⟨.cell a,false,true⟩ }∨op= { g:=i,fn:=fn,pos:=pos,act:=.access ⟨.cell a,true,true⟩ }:=by simpa using hop
   rcases this with rfl|rfl<;>cases e
 |said=>
  have h0:=hsaid rfl;subst h0;obtain ⟨a,ha,hor⟩:∃a:Addr,S.syn a.block∧(es= #[⟨.mark (.read a),false,true⟩]∨es= #[⟨.mark (.write a),false,true⟩]):=he;have :=h.app (B':=γ.B) (aJ _) hl hg (λop hop x hx=>?_) (.inl rfl) (λop hop b e=>?_)
  ·exact this
  ·obtain ⟨e,hem,rfl⟩:=mem_ofEvents hop
   have hx1:x.loc= .cell a∧x.kind= .said:=by
    rcases hor with rfl|rfl<;>simp at hem<;>subst hem
    ·have :x=⟨.cell a,false,.said⟩:=(aU hx).symm;subst this;exact ⟨rfl,rfl⟩
    ·have :x=⟨.cell a,true,.said⟩:=(aU hx).symm;subst this;exact ⟨rfl,rfl⟩
   exact ⟨.inr (.inr (.inl ⟨by rw [hx1.1];exact (zQ _ ha).2 _ trivial rfl,by rw [hx1.2];simp, λ_=>rfl⟩)), λ_=>by rw [hx1.1,hB];exact (zQ _ ha).1⟩
  ·obtain ⟨e',hem,rfl⟩:=mem_ofEvents hop;rcases hor with rfl|rfl<;>simp at hem<;>subst hem<;>cases e
 |_=>cases hk
theorem lM {s:Sh} {k:Kind} {es:Array Event} (he:RZ S s k es) (d:Nat):deafBehind d es=Kind.jG d k:=by
 have one:∀m:Mark,m≠ .disable->m≠ .enable->es= #[⟨.mark m,false,true⟩]->deafBehind d es=d:=by
  intro m h1 h2 e;subst e;exact deafBehind_still (λe he=>by simp at he;subst he;exact ⟨by simpa using h1,by simpa using h2⟩) d
 cases k with
 |atomic=>exact deafBehind_still (λe hem=>by obtain ⟨a,h1,_⟩:=(show ∀e∈es,∃a,e.loc= .cell a∧e.sync=true∧S.syn a.block from he) e hem;rw [h1];exact ⟨by simp,by simp⟩) d
 |clock=>exact deafBehind_still (λe hem=>by have h1:=(show ∀e∈es,e.loc= .output from he) e hem;rw [h1];exact ⟨by simp,by simp⟩) d
 |disable=>have he:es=_:=he;subst he;rfl
 |enable=>have he:es=_:=he;subst he;rfl
 |sem=>obtain ⟨a,_,rfl⟩:=(show ∃a:Addr,S.syn a.block∧es= #[⟨.mark .disable,false,true⟩,⟨.cell a,false,true⟩,⟨.cell a,true,true⟩,⟨.mark .enable,false,true⟩] from he);simp [deafBehind,Kind.jG]
 |said=>
  obtain ⟨a,_,h1|h1⟩:=(show ∃a:Addr,S.syn a.block∧(es= #[⟨.mark (.read a),false,true⟩]∨es= #[⟨.mark (.write a),false,true⟩]) from he)
  ·exact one _ (by simp) (by simp) h1
  ·exact one _ (by simp) (by simp) h1
 |uO=>obtain ⟨a,_,h1⟩:=(show ∃a,S.gq s=some a∧es= #[⟨.mark (.acquire a),false,true⟩] from he);exact one _ (by simp) (by simp) h1
 |uP=>obtain ⟨a,_,h1⟩:=(show ∃a,S.gq s=some a∧es= #[⟨.mark (.releaseMerge a),false,true⟩] from he);exact one _ (by simp) (by simp) h1
 |done=>obtain ⟨a,_,h1⟩:=(show ∃a,S.nW s=some a∧es= #[⟨.mark (.releaseMerge a),false,true⟩] from he);exact one _ (by simp) (by simp) h1
 |join=>obtain ⟨a,_,h1⟩:=(show ∃a,S.nW s=some a∧es= #[⟨.mark (.acquire a),false,true⟩] from he);exact one _ (by simp) (by simp) h1
theorem Gi {w w2:World} {t:Trace} {s s':Sh} {γ:Gh} {j:Nat} {gj g g':Goroutine} {Cs:TS T} (h:One P S w t s γ j gj Cs)
 (hb:∀y,Cs= .gP y->S.blk y.Tt s->S.blk y.Tt s'∨(mayWake P g=true∧g'.status≠ .blocked∧g'.status≠ .waiting)):One P S w t s' γ j (woken P g g' w2 gj) Cs:=by
 cases Cs with
 |lv k d=>obtain ⟨h1,h2⟩:=h;exact ⟨by rw [woken_quitsD h1];exact h1,h2⟩
 |gP x=>
  obtain ⟨h1,h2,h3⟩:=h;have hrun:x.g.status= .running:=h2.running λ_ _ _=>lH
  refine ⟨?_,h2,h3⟩;rcases h1 with rfl|⟨hl,hbl,rfl⟩
  ·left;unfold woken;split
   ·exact again_running _ (.inl hrun)
   ·rfl
  ·have hoff:x.g.offers=none:=by
    rw [hl] at h2;exact I5 (h2 x.W (dZ.refl _)) hbl
   unfold woken;split
   ·exact .inl (again_blocked hrun hoff _)
   ·rename_i hw;rcases hb x rfl hbl with hb|⟨h4,h5,h6⟩
    ·exact .inr ⟨hl,hb,rfl⟩
    ·exfalso;apply hw;simp [h4,h5,h6]
theorem wU {X:lW T} (hst:∀i Tt own g W,X i Tt own g W->g.status= .running) {i:Nat} {Tt:T} {own:Nat->Prop} {g:Goroutine} {W:World} (h:On P S X i Tt own g W):g.status≠ .blocked∧g.status≠ .waiting:=by
 unfold On at h;split at h
 ·obtain ⟨q,hq⟩:=h;rcases hq.status with h|h<;>rw [h]<;>exact ⟨by simp,by simp⟩
 ·obtain ⟨tr,htr⟩:=h.rank;have :=htr.running (hst i Tt);rw [this];exact ⟨by simp,by simp⟩
theorem LQ {w w':World} {t u:Trace} {s0:Sh} {γ:Gh} {i j:Nat} {gj:Goroutine} {Cs:TS T} (hj:j≠i) (hu:∀op∈u,op.g=i) (zQ:∀b,S.syn b->b<w.heap.size∧∀l,fQ l->lb l=b->γ.who l= .sy) (hst:eH S w w')
 (h:One P S w t s0 γ j gj Cs):One P S w' (t++u) s0 γ j gj Cs:=by
 cases Cs with
 |lv k d=>
  obtain ⟨h1,h2,h3,h4⟩:=h;exact ⟨h1,by rw [Deaf_other t (Ne.symm hj) u hu];exact h2,h3,h4⟩
 |gP x=>
  obtain ⟨h1,h2,h3,h4,h5,h6,h7⟩:=h;exact ⟨h1,h2,h3.trans (QO zQ h7 hst),by rw [Deaf_other t (Ne.symm hj) u hu];exact h4,h5,h6,h7.size hst.size⟩
theorem MI.QT {gs:Array Goroutine} {w:World} {t:Trace} {θ:Nat->TS T} {s:Sh} {γ:Gh} {G D:Nat->Prop} {Dc:Nat->Nat->Prop} (ok:uQ S AI free rk lt) (h:MI P S AI free O gs w t θ s γ G D Dc)
 {i:Nat} {x:Ui T} (hi:gs[i]?=some x.g) (hx:θ i= .gP x) {T':T} {s':Sh} {g':Goroutine} {w':World} {es:Array Event}
 (hf:S.fork x.Tt=false) (hr:S.ret x.Tt=false) (hb:¬S.blk x.Tt s) (hmv:S.mv i x.Tt s T' s') (hwk:S.wakes x.Tt=true->mayWake P x.g=true) (uh:S.Ey s' w') (hst:eH S w w') (he:RZ S s (S.kind x.Tt) es) (hk:(S.kind x.Tt).plain=true)
 (hon:On P S (At P S) i T' x.own g' w'):
 ∃uR,MI P S AI free O ((gs.map (woken P x.g g' w')).setIfInBounds i g') w' (t++MemOp.ofEvents i x.g.frame.fn x.g.frame.place es) (upd θ i uR) s' γ G D Dc∧stops (upd θ i uR)=upd (stops θ) i (if S.quit T' then none else some T'):=by
 have h1:=h.one i x.g hi;rw [hx] at h1;obtain ⟨_,Ph,Gf,nT,oG,Dx,eT⟩:=h1;have hlt:=(aI.1 hi).1;have hφ:stops θ i=some x.Tt:=by unfold stops;rw [hx];rfl
 obtain ⟨hsame,hZ,hpast⟩:=ok.plain h.ai hlt hφ hmv hk;have hdf:=ok.jG h.ai hlt hφ hmv;obtain ⟨hai,_⟩:=ok.move h.ai hlt hφ hf hr hb hmv;obtain ⟨au4,au5⟩:=ok.J3 h.ai hlt hφ;have hu:∀op∈MemOp.ofEvents i x.g.frame.fn x.g.frame.place es,op.g=i:= λop hop=>by obtain ⟨e,_,rfl⟩:=mem_ofEvents hop;rfl
 have am0:=wU (λ_ _ _ _ _=>lH) hon
 obtain ⟨uR,Cu⟩:∃uR:TS T,One P S w' (t++MemOp.ofEvents i x.g.frame.fn x.g.frame.place es) s' γ i g' uR∧uR.stop?=(if S.quit T' then none else some T')∧(i=0->∃y,uR= .gP y):=by
  have hd:Deaf (t++MemOp.ofEvents i x.g.frame.fn x.g.frame.place es) i=S.deaf T':=by rw [Deaf_own,lM he,nT,hdf]
  unfold On at hon
  by_cases hq:S.quit T'=true
  ·rw [aj hq] at hon;obtain ⟨q,hq'⟩:=hon;obtain ⟨hp,h0⟩:=ok.quits h.ai hlt hφ hmv hq;refine ⟨.lv q (S.deaf T'),⟨hq',hd,h0, λha=>?_⟩,by rw [aj hq];rfl, λe=>absurd e h0⟩;have :=(Dx h0).1 ha;rw [<-hpast,hp] at this;cases this
  ·rw [aa hq] at hon;obtain ⟨tr,htr⟩:=hon.rank;refine ⟨.gP ⟨T',x.own,g',w',tr⟩,⟨.inl rfl,htr,dZ.refl _,hd,oG, λh0=>by rw [hpast];exact Dx h0,?_⟩,by rw [aa hq];rfl, λ_=>⟨_,rfl⟩⟩;show gJ γ w'.heap.size i (S.Z i T') x.own;rw [hZ];exact eT.size hst.size
 have Gj:∀b,γ.who (.obj b)≠ .sy->w'.heap[b]?=w.heap[b]?:= λb hb=>hst.rest b λhs=>hb ((h.syn b (.inl hs)).2 (.obj b) trivial rfl)
 refine ⟨uR,⟨λj gj hj=>?_,?_,by simpa using h.pos,?_,uh,?_,h.B.trans hst.size.symm,by simpa using zh h.nums hlt _ _ _, λb hb=>?_,h.yH,h.memo, λk hk=>by simpa using h.Cr k hk, λhj=>h.jn (hsame.nW ▸ hj),h.gq.trans hsame.gq.symm,h.nW.trans hsame.nW.symm, λhfr=>?_,?_⟩,?_⟩
 ·rcases zg hj with ⟨rfl,rfl,_⟩|⟨hne,g0,hg0,rfl⟩
  ·rw [upd_same];exact Cu.1
  ·rw [upd_ne hne];refine LQ hne hu (λb hb=>h.syn b (.inl hb)) hst (Gi (h.one j g0 hg0) λy hy hbl=>?_);cases hw:S.wakes x.Tt with
   |true=>exact .inr ⟨hwk hw,am0⟩
   |false=>
    have Uk:stops θ j=some y.Tt:=by unfold stops;rw [hy];rfl
    exact .inl (ok.stay h.ai hlt hφ hb hw (.inl hmv) j y.Tt (aI.1 hg0).1 hne Uk hbl)
 ·by_cases h0:(0:Nat)=i
  ·obtain ⟨y,hy⟩:=Cu.2.2 h0.symm;exact ⟨y,by rw [h0,upd_same];exact hy⟩
  ·obtain ⟨y,hy⟩:=h.main;exact ⟨y,by rw [upd_ne h0];exact hy⟩
 ·have e:stops (upd θ i uR)=upd (stops θ) i (if S.quit T' then none else some T'):=by
   funext j;unfold stops
   by_cases hj:j=i
   ·subst hj;rw [upd_same,upd_same];exact Cu.2.1
   ·rw [upd_ne hj,upd_ne hj]
  rw [e];simpa using hai
 ·refine h.ti.QS h.B (λb hb=>h.syn b (.inl hb)) h.yH oG hk he ?_ au5 _ _
  by_cases h0:i=0
  ·exact .inl (.inl h0)
  ·cases hp:S.past x.Tt with
   |false=>exact .inl (.inr ((Dx h0).2 hp))
   |true=>
    obtain ⟨_,_,h2,h3⟩:=au4 hp;exact .inr ⟨h2, λe=>by rw [nT];exact h3 e⟩
 ·have :=h.syn b hb;exact ⟨by rw [hst.size];exact this.1,this.2⟩
 ·obtain ⟨h2,h3⟩:=h.lk (hsame.free.1 hfr);refine ⟨ok.zf s' G w w' (hsame.J G w h2) λb hb=>Gj b ?_, λb hb=>⟨by rw [hst.size];exact (h3 b hb).1,(h3 b hb).2⟩⟩;rw [(h3 b hb).2 (.obj b) trivial rfl];simp
 ·obtain ⟨h2,h3,h4⟩:=h.dn;refine ⟨ok.Cq s' D Dc w w' (hsame.Dp D Dc w h2) (λb hb=>Gj b ?_) (λb k hb=>?_), λb hb=>⟨by rw [hst.size];exact (h3 b hb).1,(h3 b hb).2⟩, λb k hb=>⟨by rw [hst.size];exact (h4 b k hb).1,(h4 b k hb).2⟩⟩
  ·rw [(h3 b hb).2 (.obj b) trivial rfl];simp
  ·obtain ⟨g1,g2,g3⟩:=h4 b k hb
   have :¬S.syn b:= λhs=>by
    have :=((h.syn b (.inl hs)).2 (.cell ⟨b,k,none⟩) trivial rfl).symm.trans (g3 ⟨b,k,none⟩ rfl rfl);cases this
   unfold World.cell?;simp only [hst.rest b this]
 ·funext j;unfold stops
  by_cases hj:j=i
  ·subst hj;rw [upd_same,upd_same];exact Cu.2.1
  ·rw [upd_ne hj,upd_ne hj]
end
end
section
variable {O:Nat->Prop}
section
variable {T Sh ρ:Type} {P:Program} {S:Sys T Sh} {AI:Nat->(Nat->Option T)->Sh->Prop} {free:Sh->Prop} {rk:Nat->(Nat->Option T)->Sh->ρ} {lt:ρ->ρ->Prop}
theorem Gm {w:World} {t:Trace} {s:Sh} {γ γ':Gh} {j:Nat} {gj:Goroutine} {Cs:TS T} (h:One P S w t s γ j gj Cs)
 (hr:∀y,Cs= .gP y->gJ γ w.heap.size j (S.Z j y.Tt) y.own->gJ γ' w.heap.size j (S.Z j y.Tt) y.own) (hl:γ.live j->γ'.live j) (ha:γ'.act j↔γ.act j):One P S w t s γ' j gj Cs:=by
 cases Cs with
 |lv k d=>obtain ⟨h1,h2,h3,h4⟩:=h;exact ⟨h1,h2,h3, λx=>h4 (ha.1 x)⟩
 |gP x=>
  obtain ⟨h1,h2,h3,h4,h5,h6,h7⟩:=h;exact ⟨h1,h2,h3,h4,hl h5, λh0=>ha.trans (h6 h0),hr x rfl h7⟩
theorem Dy {θ:Nat->TS T} {i:Nat} {uR:TS T} {o:Option T} (h:uR.stop?=o):stops (upd θ i uR)=upd (stops θ) i o:=by
 funext j;unfold stops
 by_cases hj:j=i
 ·subst hj;rw [upd_same,upd_same];exact h
 ·rw [upd_ne hj,upd_ne hj]
theorem MI.hand {gs:Array Goroutine} {w:World} {t:Trace} {θ:Nat->TS T} {s:Sh} {γ:Gh} {G D:Nat->Prop} {Dc:Nat->Nat->Prop} (ok:uQ S AI free rk lt) (h:MI P S AI free O gs w t θ s γ G D Dc)
 {i:Nat} {x:Ui T} (hi:gs[i]?=some x.g) (hx:θ i= .gP x) {T':T} {s':Sh} {g':Goroutine} {w':World} {es:Array Event} {γ':Gh} {uR:TS T} {G' D':Nat->Prop} {Hu:Nat->Nat->Prop}
 (hf:S.fork x.Tt=false) (hr:S.ret x.Tt=false) (hb:¬S.blk x.Tt s) (hmv:S.mv i x.Tt s T' s') (hwk:S.wakes x.Tt=true->mayWake P x.g=true) (uh:S.Ey s' w') (hst:eH S w w')
 (hnb:g'.status≠ .blocked∧g'.status≠ .waiting)
 (hti:TI γ' (t++MemOp.ofEvents i x.g.frame.fn x.g.frame.place es)) (hB:γ'.B=γ.B)
 (Cu:One P S w' (t++MemOp.ofEvents i x.g.frame.fn x.g.frame.place es) s' γ' i g' uR) (hstop:uR.stop?=if S.quit T' then none else some T') (hmain:i=0->∃y,uR= .gP y)
 (aa1:∀j y,j≠i->θ j= .gP y->j<gs.size->gJ γ w.heap.size j (S.Z j y.Tt) y.own->gJ γ' w.heap.size j (S.Z j y.Tt) y.own)
 (hlive:∀j,j≠i->γ.live j->γ'.live j) (hact:∀j,j≠i->(γ'.act j↔γ.act j))
 (hsy:∀l,γ.who l= .sy->γ'.who l= .sy) (aa2:∀l,¬fQ l->γ'.who l= .fr) (am1:∀l,fQ l->γ'.who l≠ .fr∧(γ'.who l= .sy->S.syn (lb l)∨O (lb l)))
 (hjn:S.nW s'=none->∀l,fQ l->¬(S.syn (lb l)∨O (lb l))->γ'.who l= .gP 0) (hla:γ'.lock=S.gq s') (hwa:γ'.wg=S.nW s')
 (hlk:free s'->S.J s' G' w'∧∀b,G' b->b<w'.heap.size∧∀l,fQ l->lb l=b->γ'.who l= .lk)
 (hdn:S.Dp s' D' Hu w'∧(∀b,D' b->b<w'.heap.size∧∀l,fQ l->lb l=b->γ'.who l= .dn)∧∀b k,Hu b k->b<w'.heap.size∧γ'.who (.obj b)= .pt∧∀a:Addr,a.block=b->a.off=k->γ'.who (.cell a)= .dn):
 MI P S AI free O ((gs.map (woken P x.g g' w')).setIfInBounds i g') w' (t++MemOp.ofEvents i x.g.frame.fn x.g.frame.place es) (upd θ i uR) s' γ' G' D' Hu∧stops (upd θ i uR)=upd (stops θ) i (if S.quit T' then none else some T'):=by
 have hlt:=(aI.1 hi).1;have hφ:stops θ i=some x.Tt:=by unfold stops;rw [hx];rfl
 obtain ⟨hai,_⟩:=ok.move h.ai hlt hφ hf hr hb hmv;have hu:∀op∈MemOp.ofEvents i x.g.frame.fn x.g.frame.place es,op.g=i:= λop hop=>by obtain ⟨e,_,rfl⟩:=mem_ofEvents hop;rfl
 have hst':=Dy (θ:=θ) (i:=i) hstop;refine ⟨⟨λj gj hj=>?_,?_,by simpa using h.pos,by rw [hst'];simpa using hai,uh,hti,hB.trans (h.B.trans hst.size.symm),by simpa using zh h.nums hlt _ _ _, λb hb=>?_,aa2,am1, λk hk=>?_,hjn,hla,hwa,hlk,hdn⟩,hst'⟩
 ·rcases zg hj with ⟨rfl,rfl,_⟩|⟨hne,g0,hg0,rfl⟩
  ·rw [upd_same];exact Cu
  ·rw [upd_ne hne];have hjlt:=(aI.1 hg0).1
   have h1:One P S w t s' γ j (woken P x.g g' w' g0) (θ j):=Gi (h.one j g0 hg0) λy hy hbl=>by
    cases hw:S.wakes x.Tt with
    |true=>exact .inr ⟨hwk hw,hnb⟩
    |false=>
     have Uk:stops θ j=some y.Tt:=by unfold stops;rw [hy];rfl
     exact .inl (ok.stay h.ai hlt hφ hb hw (.inl hmv) j y.Tt hjlt hne Uk hbl)
   have h2:=LQ hne hu (λb hb=>h.syn b (.inl hb)) hst h1;exact Gm h2 (λy hy hR=>(aa1 j y hne hy hjlt (hR.size hst.size.symm)).size hst.size) (hlive j hne) (hact j hne)
 ·by_cases h0:(0:Nat)=i
  ·obtain ⟨y,hy⟩:=hmain h0.symm;exact ⟨y,by rw [h0,upd_same];exact hy⟩
  ·obtain ⟨y,hy⟩:=h.main;exact ⟨y,by rw [upd_ne h0];exact hy⟩
 ·have :=h.syn b hb;exact ⟨by rw [hst.size];exact this.1, λl hl e=>hsy l (this.2 l hl e)⟩
 ·by_cases hki:k=i
  ·subst hki;simpa using hlt
  ·simpa using h.Cr k ((hact k hki).1 hk)
theorem hd1 {i:Nat} {fn:FuncId} {pos:String} {m:Mark}:MemOp.ofEvents i fn pos #[⟨.mark m,false,true⟩]= #[{ g:=i,fn:=fn,pos:=pos,act:=.mark m }]:=by rw [ofEvents_eq];simp [MemAct.ofEvent]
theorem uS {w':World} {t':Trace} {s':Sh} {γ':Gh} {i:Nat} {g':Goroutine} {T':T} {dL:Nat->Prop} (hq:S.quit T'=false) (hon:On P S (At P S) i T' dL g' w') (hd:Deaf t' i=S.deaf T') (hl:γ'.live i) (ha:i≠0->(γ'.act i↔S.past T'=false))
 (hR:gJ γ' w'.heap.size i (S.Z i T') dL):∃uR:TS T,One P S w' t' s' γ' i g' uR∧uR.stop?=(if S.quit T' then none else some T')∧∃y,uR= .gP y:=by
 unfold On at hon;have hnq:¬S.quit T'=true:=by rw [hq];simp
 rw [aa hnq] at hon;obtain ⟨tr,htr⟩:=hon.rank;exact ⟨.gP ⟨T',dL,g',w',tr⟩,⟨.inl rfl,htr,dZ.refl _,hd,hl,ha,hR⟩,by rw [aa hnq];rfl,_,rfl⟩
theorem gJ.turn {γ γ':Gh} {n j:Nat} {Z:gB} {own:Nat->Prop} (k:gJ γ n j Z own) (h:∀l,γ'.who l=γ.who l∨(γ.who l≠ .gP j∧γ.who l≠ .ro∧γ.who l≠ .sy∧γ.who l≠ .pt)):gJ γ' n j Z own:=by
 refine ⟨λb hb=>⟨(k.own b hb).1, λl h1 h2=>?_⟩, λb c hb=>⟨(k.cl b c hb).1,?_, λa e1 e2=>?_⟩, λb hb=>⟨(k.ro b hb).1, λl h1 h2=>?_⟩, λb hb=>⟨(k.sy b hb).1,?_⟩⟩
 ·have e:=(k.own b hb).2 l h1 h2;rcases h l with e'|⟨e',_⟩
  ·rw [e'];exact e
  ·exact absurd e e'
 ·have e:=(k.cl b c hb).2.1;rcases h (.obj b) with e'|⟨_,_,_,e'⟩
  ·rw [e'];exact e
  ·exact absurd e e'
 ·have e:=(k.cl b c hb).2.2 a e1 e2;rcases h (.cell a) with e'|⟨e',_⟩
  ·rw [e'];exact e
  ·exact absurd e e'
 ·have e:=(k.ro b hb).2 l h1 h2;rcases h l with e'|⟨_,e',_⟩
  ·rw [e'];exact e
  ·exact absurd e e'
 ·rcases h (.obj b) with e'|⟨_,_,e1,e2⟩
  ·rw [e'];exact (k.sy b hb).2
  ·rcases (k.sy b hb).2 with e|e
   ·exact absurd e e1
   ·exact absurd e e2
theorem MI.Gj {gs:Array Goroutine} {w w':World} {t:Trace} {θ:Nat->TS T} {s:Sh} {γ:Gh} {G D:Nat->Prop} {Dc:Nat->Nat->Prop} (h:MI P S AI free O gs w t θ s γ G D Dc) (hst:eH S w w') {b:Nat} (hb:γ.who (.obj b)≠ .sy):w'.heap[b]?=w.heap[b]?:=
 hst.rest b λhs=>hb ((h.syn b (.inl hs)).2 (.obj b) trivial rfl)
theorem MI.J4 {gs:Array Goroutine} {w w':World} {t:Trace} {θ:Nat->TS T} {s s':Sh} {γ γ':Gh} {G D:Nat->Prop} {Dc:Nat->Nat->Prop} (ok:uQ S AI free rk lt) (h:MI P S AI free O gs w t θ s γ G D Dc) (hst:eH S w w')
 (hw:∀l,γ'.who l=γ.who l∨(γ.who l≠ .dn∧γ.who l≠ .pt)) (hD:∀D Dc w,S.Dp s D Dc w->S.Dp s' D Dc w):
 S.Dp s' D Dc w'∧(∀b,D b->b<w'.heap.size∧∀l,fQ l->lb l=b->γ'.who l= .dn)∧∀b k,Dc b k->b<w'.heap.size∧γ'.who (.obj b)= .pt∧∀a:Addr,a.block=b->a.off=k->γ'.who (.cell a)= .dn:=by
 obtain ⟨d1,d2,d3⟩:=h.dn;refine ⟨hD D Dc w' (ok.Cq s D Dc w w' d1 (λb hb=>h.Gj hst (by rw [(d2 b hb).2 (.obj b) trivial rfl];simp)) (λb k hb=>?_)), λb hb=>⟨by rw [hst.size];exact (d2 b hb).1, λl h1 h2=>?_⟩, λb k hb=>⟨by rw [hst.size];exact (d3 b k hb).1,?_, λa e1 e2=>?_⟩⟩
 ·have :=h.Gj hst (b:=b) (by rw [(d3 b k hb).2.1];simp);unfold World.cell?;simp only [this]
 ·have e:=(d2 b hb).2 l h1 h2;rcases hw l with e'|⟨e',_⟩
  ·rw [e'];exact e
  ·exact absurd e e'
 ·have e:=(d3 b k hb).2.1;rcases hw (.obj b) with e'|⟨_,e'⟩
  ·rw [e'];exact e
  ·exact absurd e e'
 ·have e:=(d3 b k hb).2.2 a e1 e2;rcases hw (.cell a) with e'|⟨e',_⟩
  ·rw [e'];exact e
  ·exact absurd e e'
theorem MI.Xh {gs:Array Goroutine} {w:World} {t:Trace} {θ:Nat->TS T} {s:Sh} {γ:Gh} {G D:Nat->Prop} {Dc:Nat->Nat->Prop} (ok:uQ S AI free rk lt) (h:MI P S AI free O gs w t θ s γ G D Dc)
 {i:Nat} {x:Ui T} (hi:gs[i]?=some x.g) (hx:θ i= .gP x) {T':T} {s':Sh} {g':Goroutine} {w':World} {es:Array Event}
 (hf:S.fork x.Tt=false) (hr:S.ret x.Tt=false) (hb:¬S.blk x.Tt s) (hmv:S.mv i x.Tt s T' s') (hwk:S.wakes x.Tt=true->mayWake P x.g=true) (uh:S.Ey s' w') (hst:eH S w w') (he:RZ S s (S.kind x.Tt) es) (hk:S.kind x.Tt= .uO)
 (hon:∀G,(∀b,G b->¬x.own b)->S.J s G w'->On P S (At P S) i T' (λb=>x.own b∨G b) g' w'):
 ∃uR γ' G',MI P S AI free O ((gs.map (woken P x.g g' w')).setIfInBounds i g') w' (t++MemOp.ofEvents i x.g.frame.fn x.g.frame.place es) (upd θ i uR) s' γ' G' D Dc∧stops (upd θ i uR)=upd (stops θ) i (if S.quit T' then none else some T'):=by
 classical
 have h1:=h.one i x.g hi;rw [hx] at h1;obtain ⟨_,Ph,Gf,nT,oG,Dx,eT⟩:=h1;have hlt:=(aI.1 hi).1;have hφ:stops θ i=some x.Tt:=by unfold stops;rw [hx];rfl
 obtain ⟨o1,o2,o3,o4,o5,o6,o7,o8,o9,Ul⟩:=ok.uO h.ai hlt hφ hmv hk;have hdf:=ok.jG h.ai hlt hφ hmv;rw [hk] at hdf he;obtain ⟨a,ha,rfl⟩:∃a,S.gq s=some a∧es= #[⟨.mark (.acquire a),false,true⟩]:=he;obtain ⟨hJ,hG⟩:=h.lk o1
 have hJ':=ok.zf s G w w' hJ λb hb=>hst.rest b λhs=>by
  have :=((h.syn b (.inl hs)).2 (.obj b) trivial rfl).symm.trans ((hG b hb).2 (.obj b) trivial rfl);cases this
 have hGo:∀b,G b->¬x.own b:= λb hb ho=>by
  have :=(eT.nX ho).symm.trans ((hG b hb).2 (.obj b) trivial rfl);cases this
 have hon:=hon G hGo hJ';obtain ⟨eu,jH⟩:∃eu:Loc->Who,eu= λl=>if fQ l∧G (lb l) then .gP i else γ.who l:=⟨_,rfl⟩
 have vY:∀l,fQ l->G (lb l)->eu l= .gP i:= λl h1 h2=>by rw [jH];exact aj ⟨h1,h2⟩
 have nY:∀l,¬(fQ l∧G (lb l))->eu l=γ.who l:= λl h1=>by rw [jH];exact aa h1
 have wlk:∀l,fQ l->G (lb l)->γ.who l= .lk:= λl h1 h2=>(hG _ h2).2 l h1 rfl
 have mW:∀l,γ.who l≠ .lk->eu l=γ.who l:= λl hl=>nY l λ⟨h1,h2⟩=>hl (wlk l h1 h2)
 have keepR:∀j Z own,gJ γ w.heap.size j Z own->gJ { γ with who:=eu } w.heap.size j Z own:= λj Z own k=>k.turn λl=>by
  by_cases hl:γ.who l= .lk
  ·exact .inr (by rw [hl];simp)
  ·exact .inl (mW l hl)
 have hti:=h.ti.acquire (z:={ g:=i,fn:=x.g.frame.fn,pos:=x.g.frame.place,act:=.mark (.acquire a) }) (a:=a) (by rw [h.gq,ha]) rfl (by rw [nT,o6]) oG (eu:=eu) (λl=>by
  by_cases hl:fQ l∧G (lb l)
  ·exact .inr ⟨wlk l hl.1 hl.2,vY l hl.1 hl.2⟩
  ·exact .inl (nY l hl))
 have hRi:gJ { γ with who:=eu } w'.heap.size i (S.Z i T') (λb=>x.own b∨G b):=by
  have :=keepR i _ _ eT;rw [o8,hst.size];refine ⟨λb hb=>?_,this.cl,this.ro,this.sy⟩;rcases hb with hb|hb
  ·exact this.own b hb
  ·exact ⟨(hG b hb).1, λl h1 h2=>vY l h1 (by rw [h2];exact hb)⟩
 have hdd:Deaf (t++MemOp.ofEvents i x.g.frame.fn x.g.frame.place #[⟨.mark (.acquire a),false,true⟩]) i=S.deaf T':=by
  rw [Deaf_own,nT,hdf,lM (S:=S) (s:=s) (k:=.uO) ⟨a,ha,rfl⟩]
 obtain ⟨uR,Cu,hstop,NU⟩:=uS (s':=s') Ul hon hdd (γ':={ γ with who:=eu }) oG (λh0=>by rw [o9];exact Dx h0) hRi
 refine ⟨uR,{ γ with who:=eu }, λ_=>False,MI.hand ok h hi hx hf hr hb hmv hwk uh hst (wU (λ_ _ _ _ _=>lH) hon) (by rw [hd1];exact hti) rfl Cu hstop (λ_=>NU)
  (λj y _ _ _ k=>keepR j _ _ k) (λ_ _ h=>h) (λ_ _=>Iff.rfl) (λl hl=>?_) (λl hl=>?_) (λl hl=>?_) (λhn=>?_) (by rw [o3];exact h.gq) (by rw [o4];exact h.nW) (λhf'=>absurd hf' o2) ?_⟩
 ·show eu l=_;rw [mW l (by rw [hl];simp)];exact hl
 ·show eu l=_;rw [nY l λhm=>hl hm.1];exact h.yH l hl
 ·show eu l≠_∧(eu l=_->_)
  by_cases hg:G (lb l)
  ·rw [vY l hl hg];exact ⟨by simp,by simp⟩
  ·rw [nY l λhm=>hg hm.2];exact h.memo l hl
 ·rw [o4] at hn;exact absurd hn o5
 ·refine h.J4 ok hst (λl=>?_) o7
  by_cases hl:γ.who l= .lk
  ·exact .inr (by rw [hl];simp)
  ·exact .inl (mW l hl)
theorem MI.Xi {gs:Array Goroutine} {w:World} {t:Trace} {θ:Nat->TS T} {s:Sh} {γ:Gh} {G D:Nat->Prop} {Dc:Nat->Nat->Prop} (ok:uQ S AI free rk lt) (h:MI P S AI free O gs w t θ s γ G D Dc)
 {i:Nat} {x:Ui T} (hi:gs[i]?=some x.g) (hx:θ i= .gP x) {T':T} {s':Sh} {g':Goroutine} {w':World} {es:Array Event}
 (hf:S.fork x.Tt=false) (hr:S.ret x.Tt=false) (hb:¬S.blk x.Tt s) (hmv:S.mv i x.Tt s T' s') (hwk:S.wakes x.Tt=true->mayWake P x.g=true) (uh:S.Ey s' w') (hst:eH S w w') (he:RZ S s (S.kind x.Tt) es) (hk:S.kind x.Tt= .uP)
 (hon:∃G,(∀b,G b->x.own b)∧S.J s' G w'∧On P S (At P S) i T' (λb=>x.own b∧¬G b) g' w'):
 ∃uR γ' G',MI P S AI free O ((gs.map (woken P x.g g' w')).setIfInBounds i g') w' (t++MemOp.ofEvents i x.g.frame.fn x.g.frame.place es) (upd θ i uR) s' γ' G' D Dc∧stops (upd θ i uR)=upd (stops θ) i (if S.quit T' then none else some T'):=by
 classical
 have h1:=h.one i x.g hi;rw [hx] at h1;obtain ⟨_,Ph,Gf,nT,oG,Dx,eT⟩:=h1;have hlt:=(aI.1 hi).1;have hφ:stops θ i=some x.Tt:=by unfold stops;rw [hx];rfl
 obtain ⟨o1,o3,o4,o5,o6,o7,o8,o9,Ul⟩:=ok.uP h.ai hlt hφ hmv hk;have hdf:=ok.jG h.ai hlt hφ hmv;rw [hk] at hdf he;obtain ⟨a,ha,rfl⟩:∃a,S.gq s=some a∧es= #[⟨.mark (.releaseMerge a),false,true⟩]:=he;obtain ⟨G',hG,hJ,hon⟩:=hon;obtain ⟨eu,jH⟩:∃eu:Loc->Who,eu= λl=>if fQ l∧G' (lb l) then .lk else γ.who l:=⟨_,rfl⟩
 have vY:∀l,fQ l->G' (lb l)->eu l= .lk:= λl h1 h2=>by rw [jH];exact aj ⟨h1,h2⟩
 have nY:∀l,¬(fQ l∧G' (lb l))->eu l=γ.who l:= λl h1=>by rw [jH];exact aa h1
 have Y2:∀l,fQ l->G' (lb l)->γ.who l= .gP i:= λl h1 h2=>(eT.own _ (hG _ h2)).2 l h1 rfl
 have mW:∀l,γ.who l≠ .gP i->eu l=γ.who l:= λl hl=>nY l λ⟨h1,h2⟩=>hl (Y2 l h1 h2)
 have hti:=h.ti.release (y:={ g:=i,fn:=x.g.frame.fn,pos:=x.g.frame.place,act:=.mark (.releaseMerge a) }) (a:=a) (by rw [h.gq,ha]) rfl (by rw [nT,o6]) (eu:=eu) (λl=>by
  by_cases hl:fQ l∧G' (lb l)
  ·exact .inr ⟨Y2 l hl.1 hl.2,vY l hl.1 hl.2⟩
  ·exact .inl (nY l hl))
 have hRi:gJ { γ with who:=eu } w'.heap.size i (S.Z i T') (λb=>x.own b∧¬G' b):=by
  rw [o8,hst.size];refine ⟨λb hb=>⟨(eT.own b hb.1).1, λl h1 h2=>?_⟩, λb c hb=>⟨(eT.cl b c hb).1,?_, λa e1 e2=>?_⟩, λb hb=>⟨(eT.ro b hb).1, λl h1 h2=>?_⟩, λb hb=>⟨(eT.sy b hb).1,?_⟩⟩
  ·show eu l=_;rw [nY l λhm=>hb.2 (by rw [<-h2];exact hm.2)];exact (eT.own b hb.1).2 l h1 h2
  ·show eu _=_;rw [mW _ (by rw [(eT.cl b c hb).2.1];simp)];exact (eT.cl b c hb).2.1
  ·show eu _=_;have e:=(eT.cl b c hb).2.2 a e1 e2;rw [nY _ λhm=>?_]
   ·exact e
   ·have h3:G' b:=by rw [<-e1];exact hm.2
    have :=(eT.cl b c hb).2.1.symm.trans (eT.nX (hG b h3));cases this
  ·show eu l=_;rw [mW l (by rw [(eT.ro b hb).2 l h1 h2];simp)];exact (eT.ro b hb).2 l h1 h2
  ·show eu _=_∨eu _=_;rcases (eT.sy b hb).2 with e|e<;>rw [mW _ (by rw [e];simp)]
   ·exact .inl e
   ·exact .inr e
 have hdd:Deaf (t++MemOp.ofEvents i x.g.frame.fn x.g.frame.place #[⟨.mark (.releaseMerge a),false,true⟩]) i=S.deaf T':=by
  rw [Deaf_own,nT,hdf,lM (S:=S) (s:=s) (k:=.uP) ⟨a,ha,rfl⟩]
 obtain ⟨uR,Cu,hstop,NU⟩:=uS (s':=s') Ul hon hdd (γ':={ γ with who:=eu }) oG (λh0=>by rw [o9];exact Dx h0) hRi
 refine ⟨uR,{ γ with who:=eu },G',MI.hand ok h hi hx hf hr hb hmv hwk uh hst (wU (λ_ _ _ _ _=>lH) hon) (by rw [hd1];exact hti) rfl Cu hstop (λ_=>NU)
  (λj y hne _ _ k=>k.turn λl=>?_) (λ_ _ h=>h) (λ_ _=>Iff.rfl) (λl hl=>?_) (λl hl=>?_) (λl hl=>?_) (λhn=>?_) (by rw [o3];exact h.gq) (by rw [o4];exact h.nW) (λ_=>⟨hJ, λb hb=>⟨?_, λl h1 h2=>vY l h1 (by rw [h2];exact hb)⟩⟩) ?_⟩
 ·by_cases hl:γ.who l= .gP i
  ·refine .inr ?_
   rw [hl];exact ⟨λe=>hne (Who.gP.inj e).symm,by simp,by simp,by simp⟩
  ·exact .inl (mW l hl)
 ·show eu l=_;rw [mW l (by rw [hl];simp)];exact hl
 ·show eu l=_;rw [nY l λhm=>hl hm.1];exact h.yH l hl
 ·show eu l≠_∧(eu l=_->_)
  by_cases hg:G' (lb l)
  ·rw [vY l hl hg];exact ⟨by simp,by simp⟩
  ·rw [nY l λhm=>hg hm.2];exact h.memo l hl
 ·rw [o4] at hn;exact absurd hn o5
 ·rw [hst.size];exact (eT.own b (hG b hb)).1
 ·refine h.J4 ok hst (λl=>?_) o7
  by_cases hl:γ.who l= .gP i
  ·exact .inr (by rw [hl];simp)
  ·exact .inl (mW l hl)
end
end
section
variable {O:Nat->Prop}
section
variable {T Sh ρ:Type} {P:Program} {S:Sys T Sh} {AI:Nat->(Nat->Option T)->Sh->Prop} {free:Sh->Prop} {rk:Nat->(Nat->Option T)->Sh->ρ} {lt:ρ->ρ->Prop}
theorem MI.Um {gs:Array Goroutine} {w:World} {t:Trace} {θ:Nat->TS T} {s:Sh} {γ:Gh} {G D:Nat->Prop} {Dc:Nat->Nat->Prop} (ok:uQ S AI free rk lt) (h:MI P S AI free O gs w t θ s γ G D Dc)
 {i:Nat} {x:Ui T} (hi:gs[i]?=some x.g) (hx:θ i= .gP x) {T':T} {s':Sh} {g':Goroutine} {w':World} {es:Array Event}
 (hf:S.fork x.Tt=false) (hr:S.ret x.Tt=false) (hb:¬S.blk x.Tt s) (hmv:S.mv i x.Tt s T' s') (hwk:S.wakes x.Tt=true->mayWake P x.g=true) (uh:S.Ey s' w') (hst:eH S w w') (he:RZ S s (S.kind x.Tt) es) (hk:S.kind x.Tt= .done)
 (hdp:∀D Dc,S.Dp s D Dc w'->S.Dp s' (λb=>D b∨x.own b) (λb k=>Dc b k∨(S.Z i x.Tt).cl b k) w') (hon:On P S (At P S) i T' (λ_=>False) g' w'):
 ∃uR γ' D' Hu,MI P S AI free O ((gs.map (woken P x.g g' w')).setIfInBounds i g') w' (t++MemOp.ofEvents i x.g.frame.fn x.g.frame.place es) (upd θ i uR) s' γ' G D' Hu∧stops (upd θ i uR)=upd (stops θ) i (if S.quit T' then none else some T'):=by
 classical
 have h1:=h.one i x.g hi;rw [hx] at h1;obtain ⟨_,Ph,Gf,nT,oG,Dx,eT⟩:=h1;have hlt:=(aI.1 hi).1;have hφ:stops θ i=some x.Tt:=by unfold stops;rw [hx];rfl
 obtain ⟨o1,o2,o3,o4,o5,o6,o7,o8,o9,Ul,Y3,o12,o13⟩:=ok.done h.ai hlt hφ hmv hk;have hdf:=ok.jG h.ai hlt hφ hmv;rw [hk] at hdf he;obtain ⟨a,ha,rfl⟩:∃a,S.nW s=some a∧es= #[⟨.mark (.releaseMerge a),false,true⟩]:=he;obtain ⟨eu,jH⟩:∃eu:Loc->Who,eu= λl=>if γ.who l= .gP i then .dn else γ.who l:=⟨_,rfl⟩
 have vY:∀l,γ.who l= .gP i->eu l= .dn:= λl h1=>by rw [jH];exact aj h1
 have nY:∀l,γ.who l≠ .gP i->eu l=γ.who l:= λl h1=>by rw [jH];exact aa h1
 have hti:=h.ti.done (y:={ g:=i,fn:=x.g.frame.fn,pos:=x.g.frame.place,act:=.mark (.releaseMerge a) }) (a:=a) (by rw [h.nW,ha]) rfl (by rw [nT,o4]) (eu:=eu) (λl=>by
  by_cases hl:γ.who l= .gP i
  ·rw [vY l hl];exact ⟨by simp,.inr ⟨hl,rfl⟩⟩
  ·rw [nY l hl];exact ⟨hl,.inl rfl⟩)
 have hRi:gJ { γ with who:=eu,act:= λg=>γ.act g∧g≠i } w'.heap.size i (S.Z i T') (λ_=>False):=by
  rw [hst.size];refine ⟨λb hb=>hb.elim, λb c hb=>absurd hb (o12 b c), λb hb=>⟨(eT.ro b (Ul b hb)).1, λl h1 h2=>?_⟩, λb hb=>⟨(eT.sy b (Y3 b hb)).1,?_⟩⟩
  ·show eu l=_;have e:=(eT.ro b (Ul b hb)).2 l h1 h2;rw [nY l (by rw [e];simp)];exact e
  ·show eu _=_∨eu _=_;rcases (eT.sy b (Y3 b hb)).2 with e|e<;>rw [nY _ (by rw [e];simp)]
   ·exact .inl e
   ·exact .inr e
 have hdd:Deaf (t++MemOp.ofEvents i x.g.frame.fn x.g.frame.place #[⟨.mark (.releaseMerge a),false,true⟩]) i=S.deaf T':=by
  rw [Deaf_own,nT,hdf,lM (S:=S) (s:=s) (k:=.done) ⟨a,ha,rfl⟩]
 obtain ⟨uR,Cu,hstop,NU⟩:=uS (s':=s') o13 hon hdd (γ':={ γ with who:=eu,act:= λg=>γ.act g∧g≠i }) oG (λ_=>⟨λx=>absurd rfl x.2, λx=>by rw [o3] at x;cases x⟩) hRi
 refine ⟨uR,{ γ with who:=eu,act:= λg=>γ.act g∧g≠i },_,_,MI.hand ok h hi hx hf hr hb hmv hwk uh hst (wU (λ_ _ _ _ _=>lH) hon) (by rw [hd1];exact hti) rfl Cu hstop (λ_=>NU)
  (λj y hne _ _ k=>k.turn λl=>?_) (λ_ _ h=>h) (λj hj=>⟨λx=>x.1, λx=>⟨x,hj⟩⟩) (λl hl=>?_) (λl hl=>?_) (λl hl=>?_) (λhn=>?_) (by rw [o5];exact h.gq) (by rw [o6];exact h.nW) (λhf'=>?_) ⟨hdp D Dc (h.J4 ok hst (γ':=γ) (λ_=>.inl rfl) λ_ _ _ x=>x).1, λb hb=>?_, λb k hb=>?_⟩⟩
 ·by_cases hl:γ.who l= .gP i
  ·refine .inr ?_
   rw [hl];exact ⟨λe=>hne (Who.gP.inj e).symm,by simp,by simp,by simp⟩
  ·exact .inl (nY l hl)
 ·show eu l=_;rw [nY l (by rw [hl];simp)];exact hl
 ·show eu l=_;have e:=h.yH l hl;rw [nY l (by rw [e];simp)];exact e
 ·show eu l≠_∧(eu l=_->_)
  by_cases hg:γ.who l= .gP i
  ·rw [vY l hg];exact ⟨by simp,by simp⟩
  ·rw [nY l hg];exact h.memo l hl
 ·rw [o6] at hn;exact absurd hn o7
 ·obtain ⟨h2,h3⟩:=h.lk (o8.1 hf');refine ⟨o9 G w' (ok.zf s G w w' h2 λb hb=>h.Gj hst (by rw [(h3 b hb).2 (.obj b) trivial rfl];simp)), λb hb=>⟨by rw [hst.size];exact (h3 b hb).1, λl h1 h2=>?_⟩⟩;show eu l=_;have e:=(h3 b hb).2 l h1 h2;rw [nY l (by rw [e];simp)];exact e
 ·obtain ⟨_,d2,_⟩:=h.dn;rcases hb with hb|hb
  ·refine ⟨by rw [hst.size];exact (d2 b hb).1, λl h1 h2=>?_⟩;show eu l=_;have e:=(d2 b hb).2 l h1 h2;rw [nY l (by rw [e];simp)];exact e
  ·exact ⟨by rw [hst.size];exact (eT.own b hb).1, λl h1 h2=>vY l ((eT.own b hb).2 l h1 h2)⟩
 ·obtain ⟨_,_,d3⟩:=h.dn;rcases hb with hb|hb
  ·refine ⟨by rw [hst.size];exact (d3 b k hb).1,?_, λa e1 e2=>?_⟩
   ·show eu _=_;have e:=(d3 b k hb).2.1;rw [nY _ (by rw [e];simp)];exact e
   ·show eu _=_;have e:=(d3 b k hb).2.2 a e1 e2;rw [nY _ (by rw [e];simp)];exact e
  ·obtain ⟨c1,c2,c3⟩:=eT.cl b k hb;refine ⟨by rw [hst.size];exact (eT.sy b c1).1,?_, λa e1 e2=>vY _ (c3 a e1 e2)⟩;show eu _=_;rw [nY _ (by rw [c2];simp)];exact c2
theorem MI.Un {gs:Array Goroutine} {w:World} {t:Trace} {θ:Nat->TS T} {s:Sh} {γ:Gh} {G D:Nat->Prop} {Dc:Nat->Nat->Prop} (ok:uQ S AI free rk lt) (h:MI P S AI free O gs w t θ s γ G D Dc)
 {i:Nat} {x:Ui T} (hi:gs[i]?=some x.g) (hx:θ i= .gP x) {T':T} {s':Sh} {g':Goroutine} {w':World} {es:Array Event}
 (hf:S.fork x.Tt=false) (hr:S.ret x.Tt=false) (hb:¬S.blk x.Tt s) (hmv:S.mv i x.Tt s T' s') (hwk:S.wakes x.Tt=true->mayWake P x.g=true) (uh:S.Ey s' w') (hst:eH S w w') (he:RZ S s (S.kind x.Tt) es) (hk:S.kind x.Tt= .join)
 (hon:∀G D Dc dL,S.J s G w'->S.Dp s D Dc w'->(∀b,dL b->b<w'.heap.size∧¬S.syn b)->(∀b,x.own b->dL b)->(∀b,G b->dL b)->(∀b,D b->dL b)->On P S (At P S) i T' dL g' w'):
 ∃uR γ' G' D' Hu,MI P S AI free O ((gs.map (woken P x.g g' w')).setIfInBounds i g') w' (t++MemOp.ofEvents i x.g.frame.fn x.g.frame.place es) (upd θ i uR) s' γ' G' D' Hu∧stops (upd θ i uR)=upd (stops θ) i (if S.quit T' then none else some T'):=by
 classical
 have h1:=h.one i x.g hi;rw [hx] at h1;obtain ⟨_,Ph,Gf,nT,oG,Dx,eT⟩:=h1;have hlt:=(aI.1 hi).1;have hφ:stops θ i=some x.Tt:=by unfold stops;rw [hx];rfl
 obtain ⟨o1,o2,o3,o4,o5,o6,o7,o8,o9,Ul,Y3,o12⟩:=ok.join h.ai hlt hφ hmv hk;have hdf:=ok.jG h.ai hlt hφ hmv;rw [hk] at hdf he;subst o1;obtain ⟨a,ha,rfl⟩:∃a,S.nW s=some a∧es= #[⟨.mark (.acquire a),false,true⟩]:=he
 have Y4:∀j y,j<gs.size->j≠0->θ j≠ .gP y:= λj y h1 h2 e=>by
  have :=o4 j h1 h2;unfold stops at this;rw [e] at this;cases this
 obtain ⟨eu,jH⟩:∃eu:Loc->Who,eu= λl=>if γ.who l= .sy then .sy else if γ.who l= .fr then .fr else .gP 0:=⟨_,rfl⟩
 have Xj:∀l,γ.who l= .sy->eu l= .sy:= λl h1=>by rw [jH];exact aj h1
 have wfr:∀l,γ.who l= .fr->eu l= .fr:= λl h1=>by rw [jH];simp [h1]
 have vY:∀l,γ.who l≠ .sy->γ.who l≠ .fr->eu l= .gP 0:= λl h1 h2=>by rw [jH];simp [h1,h2]
 have am2:∀l,fQ l->¬(S.syn (lb l)∨O (lb l))->eu l= .gP 0:= λl hl hn=>vY l (λe=>hn ((h.memo l hl).2 e)) (h.memo l hl).1
 have hno:∀g,g≠0->¬γ.act g:= λg hg ha=>by
  have hlt':=h.Cr g ha;have :=h.one g gs[g] (by simp [hlt']);cases xS:θ g with
  |gP y=>exact Y4 g y hlt' hg xS
  |lv k d=>rw [xS] at this;exact this.2.2.2 ha
 have hti:=(h.ti.join (z:={ g:=0,fn:=x.g.frame.fn,pos:=x.g.frame.place,act:=.mark (.acquire a) }) (a:=a) (by rw [h.nW,ha]) rfl rfl (by rw [nT,o3]) hno (eu:=eu) (λl=>by
  by_cases h1:γ.who l= .sy
  ·exact .inl ⟨by rw [Xj l h1,h1],.inl h1⟩
  ·by_cases h2:γ.who l= .fr
   ·exact .inl ⟨by rw [wfr l h2,h2],.inr h2⟩
   ·exact .inr ⟨h1,vY l h1 h2⟩)).1
 obtain ⟨hJ,hG⟩:=h.lk o2;have hon:=hon G D Dc (λb=>b<w'.heap.size∧¬(S.syn b∨O b)) (ok.zf s G w w' hJ λb hb=>h.Gj hst (by rw [(hG b hb).2 (.obj b) trivial rfl];simp)) (h.J4 ok hst (γ':=γ) (λ_=>.inl rfl) λ_ _ _ x=>x).1 (λb hb=>⟨hb.1, λhs=>hb.2 (.inl hs)⟩) (λb hb=>⟨by rw [hst.size];exact (eT.own b hb).1, λhs=>by have :=((h.syn b hs).2 (.obj b) trivial rfl).symm.trans (eT.nX hb);cases this⟩) (λb hb=>⟨by rw [hst.size];exact (hG b hb).1, λhs=>by have :=((h.syn b hs).2 (.obj b) trivial rfl).symm.trans ((hG b hb).2 (.obj b) trivial rfl);cases this⟩) (λb hb=>⟨by rw [hst.size];exact (h.dn.2.1 b hb).1, λhs=>by have :=((h.syn b hs).2 (.obj b) trivial rfl).symm.trans ((h.dn.2.1 b hb).2 (.obj b) trivial rfl);cases this⟩)
 have hRi:gJ { γ with who:=eu,wg:=none,lock:=none } w'.heap.size 0 (S.Z 0 T') (λb=>b<w'.heap.size∧¬(S.syn b∨O b)):=
  ⟨λb hb=>⟨hb.1, λl h1 h2=>am2 l h1 (by rw [h2];exact hb.2)⟩, λb c hb=>absurd hb (Y3 b c), λb hb=>absurd hb (o9 b), λb hb=>absurd hb (Ul b)⟩
 have hdd:Deaf (t++MemOp.ofEvents 0 x.g.frame.fn x.g.frame.place #[⟨.mark (.acquire a),false,true⟩]) 0=S.deaf T':=by
  rw [Deaf_own,nT,hdf,lM (S:=S) (s:=s) (k:=.join) ⟨a,ha,rfl⟩]
 obtain ⟨uR,Cu,hstop,NU⟩:=uS (s':=s') o12 hon hdd (γ':={ γ with who:=eu,wg:=none,lock:=none }) oG (λh0=>absurd rfl h0) hRi
 refine ⟨uR,{ γ with who:=eu,wg:=none,lock:=none }, λ_=>False, λ_=>False, λ_ _=>False,MI.hand ok h hi hx hf hr hb hmv hwk uh hst (wU (λ_ _ _ _ _=>lH) hon) (by rw [hd1];exact hti) rfl Cu hstop (λ_=>NU)
  (λj y hne hy hj k=>absurd hy (Y4 j y hj hne)) (λ_ _ h=>h) (λ_ _=>Iff.rfl) (λl hl=>Xj l hl) (λl hl=>wfr l (h.yH l hl)) (λl hl=>?_) (λ_ l hl hn=>am2 l hl hn) o5.symm o6.symm (λhf'=>absurd hf' o7) ⟨o8 w', λb hb=>hb.elim, λb k hb=>hb.elim⟩⟩
 show eu l≠_∧(eu l=_->_)
 by_cases hs:γ.who l= .sy
 ·rw [Xj l hs];exact ⟨by simp, λ_=>(h.memo l hl).2 hs⟩
 ·rw [vY l hs (h.memo l hl).1];exact ⟨by simp,by simp⟩
theorem J5 {t:Trace} {x y:MemOp} {k:Nat} (hx:x.act= .go k) (hy:y.act= .start) (g:Nat):Deaf (t++ #[x,y]) g=Deaf t g:=by
 have e:t++ #[x,y]=t++ [x,y].toArray:=rfl;rw [e,Deaf_append];simp only [List.foldl_cons,List.foldl_nil];unfold deafStep;rw [hx,hy]
theorem aa3 {w:World} {t:Trace} {s:Sh} {γ:Gh} {j:Nat} {gj:Goroutine} {Cs:TS T} {x y:MemOp} {k:Nat} (hx:x.act= .go k) (hy:y.act= .start) (h:One P S w t s γ j gj Cs):One P S w (t++ #[x,y]) s γ j gj Cs:=by
 cases Cs with
 |lv k d=>
  obtain ⟨h1,h2,h3,h4⟩:=h;exact ⟨h1,by rw [J5 hx hy];exact h2,h3,h4⟩
 |gP z=>
  obtain ⟨h1,h2,h3,h4,h5,h6,h7⟩:=h;exact ⟨h1,h2,h3,by rw [J5 hx hy];exact h4,h5,h6,h7⟩
theorem MI.QU {gs:Array Goroutine} {w:World} {t:Trace} {θ:Nat->TS T} {s:Sh} {γ:Gh} {G D:Nat->Prop} {Dc:Nat->Nat->Prop} (ok:uQ S AI free rk lt) (h:MI P S AI free O gs w t θ s γ G D Dc)
 {x:Ui T} (hi:gs[0]?=some x.g) (hx:θ 0= .gP x) {T' Tc:T} {s':Sh} {g' child:Goroutine} {dL sw:Nat->Prop}
 (hf:S.fork x.Tt=true) (hsp:S.sp x.Tt s T' Tc s') (uh:S.Ey s' w) (hown:∀b,x.own b↔dL b∨sw b) (zi:∀b,dL b->¬sw b)
 (hon:On P S (At P S) 0 T' dL g' w) (aa4:∀k,k≠0->On P S (At P S) k Tc sw child w) (fn1 fn2:FuncId) (pos1 pos2:String):
 ∃Wm θc γ',MI P S AI free O ((gs.setIfInBounds 0 g').push child) w (t++ #[{ g:=0,fn:=fn1,pos:=pos1,act:=.go gs.size },{ g:=gs.size,fn:=fn2,pos:=pos2,act:=.start }]) (upd (upd θ 0 Wm) gs.size θc) s' γ' G D Dc∧
  stops (upd (upd θ 0 Wm) gs.size θc)=upd (upd (stops θ) 0 (some T')) gs.size (some Tc):=by
 classical
 have h1:=h.one 0 x.g hi;rw [hx] at h1;obtain ⟨_,Ph,Gf,nT,oG,Dx,eT⟩:=h1;have hlt:=(aI.1 hi).1;have hφ:stops θ 0=some x.Tt:=by unfold stops;rw [hx];rfl
 obtain ⟨hsame,o2,o3,o4,o5,o6,o7,o8,o9,Ul,Y3,o12,o13,o14⟩:=ok.NS h.ai hφ hf hsp;obtain ⟨hai,_⟩:=ok.spawn h.ai hφ hf hsp;have hn0:gs.size≠0:=by omega
 obtain ⟨n,hn⟩:∃n,n=gs.size:=⟨_,rfl⟩;rw [<-hn] at Y3 o12 o14 hai hn0 ⊢;have aa4:=aa4 n hn0;obtain ⟨C,hC⟩:∃C:Loc->Prop,C= λl=>(fQ l∧sw (lb l))∨∃a:Addr,l= .cell a∧(S.Z n Tc).cl a.block a.off:=⟨_,rfl⟩
 have cth:∀l,C l->γ.who l= .gP 0:=by
  intro l hl;rw [hC] at hl;rcases hl with ⟨h1,h2⟩|⟨a,rfl,h2⟩
  ·exact (eT.own _ ((hown _).2 (.inr h2))).2 l h1 rfl
  ·exact (eT.cl _ _ (o14 _ _ h2).2.1).2.2 a rfl rfl
 obtain ⟨eu,jH⟩:∃eu:Loc->Who,eu= λl=>if C l then .gP n else γ.who l:=⟨_,rfl⟩
 have vY:∀l,C l->eu l= .gP n:= λl h1=>by rw [jH];exact aj h1
 have nY:∀l,¬C l->eu l=γ.who l:= λl h1=>by rw [jH];exact aa h1
 have mW:∀l,γ.who l≠ .gP 0->eu l=γ.who l:= λl hl=>nY l λhc=>hl (cth l hc)
 obtain ⟨γ',hγ⟩:∃γ':Gh,γ'= { γ with who:=eu,live:= λg=>γ.live g∨g=n,act:= λg=>γ.act g∨g=n }:=⟨_,rfl⟩;have oK:γ'.who=eu:=by rw [hγ]
 have QV:Deaf t n=0:=Deaf_absent λi op hop=>Nat.ne_of_lt (by rw [hn];exact h.nums op (bg hop))
 have hti:TI γ' (t++ #[{ g:=0,fn:=fn1,pos:=pos1,act:=.go n },{ g:=n,fn:=fn2,pos:=pos2,act:=.start }]):=by
  rw [hγ]
  exact h.ti.fork (k:=n) (x:={ g:=0,fn:=fn1,pos:=pos1,act:=.go n }) (y:={ g:=n,fn:=fn2,pos:=pos2,act:=.start }) ⟨rfl,rfl⟩ ⟨rfl,rfl⟩ (by rw [nT,o3]) QV oG (eu:=eu) λl=>by
   by_cases hl:C l
   ·exact .inr ⟨cth l hl,vY l hl⟩
   ·exact .inl (nY l hl)
 have hdd:∀g,Deaf (t++ #[{ g:=0,fn:=fn1,pos:=pos1,act:=.go n },{ g:=n,fn:=fn2,pos:=pos2,act:=.start }]) g=Deaf t g:= λg=>J5 rfl rfl g
 have other:∀{j Z own},j≠0->gJ γ w.heap.size j Z own->gJ γ' w.heap.size j Z own:= λhj k=>k.turn λl=>by
  rw [oK]
  by_cases hl:C l
  ·refine .inr ?_
   rw [cth l hl];exact ⟨λe=>hj (Who.gP.inj e).symm,by simp,by simp,by simp⟩
  ·exact .inl (nY l hl)
 have am3:∀b k,(S.Z n Tc).cl b k->∀b',x.own b'->b'≠b:= λb k hb b' hb' e=>by
  have :=(eT.cl b k (o14 b k hb).2.1).2.1.symm.trans (eT.nX (e ▸ hb'));cases this
 have hR0:gJ γ' w.heap.size 0 (S.Z 0 T') dL:=by
  refine ⟨λb hb=>⟨(eT.own b ((hown b).2 (.inl hb))).1, λl h1 h2=>?_⟩, λb c hb=>⟨(o13 b c hb).1,?_, λa e1 e2=>?_⟩, λb hb=>⟨(eT.ro b (o9 b hb)).1, λl h1 h2=>?_⟩, λb hb=>⟨(eT.sy b (Ul b hb)).1,?_⟩⟩
  ·rw [oK,nY l]
   ·exact (eT.own b ((hown b).2 (.inl hb))).2 l h1 h2
   ·intro hc;rw [hC] at hc;rcases hc with ⟨_,h3⟩|⟨a,rfl,h3⟩
    ·rw [h2] at h3;exact zi b hb h3
    ·exact am3 _ _ h3 b ((hown b).2 (.inl hb)) h2.symm
  ·have e:=(eT.cl b c (o13 b c hb).2).2.1;rw [oK,mW _ (by rw [e];simp)];exact e
  ·have e:=(eT.cl b c (o13 b c hb).2).2;rw [oK,nY]
   ·exact e.2 a e1 e2
   ·intro hc;rw [hC] at hc;rcases hc with ⟨_,h3⟩|⟨a',ea,h3⟩
    ·have h3:sw a.block:=h3;rw [e1] at h3;have :=e.1.symm.trans (eT.nX ((hown b).2 (.inr h3)));cases this
    ·cases ea;rw [e1,e2] at h3;exact (o14 b c h3).2.2 hb
  ·have e:=(eT.ro b (o9 b hb)).2 l h1 h2;rw [oK,mW l (by rw [e];simp)];exact e
  ·rw [oK];rcases (eT.sy b (Ul b hb)).2 with e|e<;>rw [mW _ (by rw [e];simp)]
   ·exact .inl e
   ·exact .inr e
 have hRc:gJ γ' w.heap.size n (S.Z n Tc) sw:=by
  refine ⟨λb hb=>⟨(eT.own b ((hown b).2 (.inr hb))).1, λl h1 h2=>?_⟩, λb c hb=>⟨(o14 b c hb).1,?_, λa e1 e2=>?_⟩, λb hb=>⟨(eT.ro b (Y3 b hb)).1, λl h1 h2=>?_⟩, λb hb=>⟨(eT.sy b (o12 b hb)).1,?_⟩⟩
  ·rw [oK];exact vY l (by rw [hC];exact .inl ⟨h1,by rw [h2];exact hb⟩)
  ·have e:=(eT.cl b c (o14 b c hb).2.1).2.1;rw [oK,mW _ (by rw [e];simp)];exact e
  ·rw [oK];exact vY _ (by rw [hC];exact .inr ⟨a,rfl,by rw [e1,e2];exact hb⟩)
  ·have e:=(eT.ro b (Y3 b hb)).2 l h1 h2;rw [oK,mW l (by rw [e];simp)];exact e
  ·rw [oK];rcases (eT.sy b (o12 b hb)).2 with e|e<;>rw [mW _ (by rw [e];simp)]
   ·exact .inl e
   ·exact .inr e
 obtain ⟨Wm,aa5,Uo,Uq⟩:=uS (s':=s') o7 hon (by rw [hdd,nT,o3,o4]) (γ':=γ') (by rw [hγ];exact .inl oG) (λh0=>absurd rfl h0) hR0;obtain ⟨θc,au6,am4,ay7⟩:=uS (s':=s') o8 aa4 (by rw [hdd,QV,o5]) (γ':=γ') (by rw [hγ];exact .inr rfl) (λ_=>⟨λ_=>o6, λ_=>by rw [hγ];exact .inr rfl⟩) hRc;rw [aa (by rw [o7];simp)] at Uo;rw [aa (by rw [o8];simp)] at am4;have am5:stops (upd (upd θ 0 Wm) n θc)=upd (upd (stops θ) 0 (some T')) n (some Tc):=by rw [Dy am4,Dy Uo]
 refine ⟨Wm,θc,γ',⟨λj gj hj=>?_,?_,by simp,by rw [am5];simpa [<-hn] using hai,uh,hti,by rw [hγ];exact h.B, λop hop=>?_, λb hb=>⟨(h.syn b hb).1, λl h1 h2=>?_⟩, λl hl=>?_, λl hl=>?_, λk hk=>?_, λhj=>absurd (hsame.nW ▸ hj) o2,by rw [hγ,hsame.gq];exact h.gq,by rw [hγ,hsame.nW];exact h.nW, λhf'=>?_,?_⟩,am5⟩
 ·rw [Array.getElem?_push] at hj;split at hj
  ·rename_i e;simp at e;have e:j=n:=by rw [e,hn]
   subst e;rw [upd_same];cases hj;exact au6
  ·rename_i e;have e:j≠n:= λe'=>e (by simp [e',hn])
   rw [upd_ne e]
   by_cases hj0:j=0
   ·subst hj0;rw [upd_same];rw [aD hlt] at hj;cases hj;exact aa5
   ·rw [upd_ne hj0];rw [au (Ne.symm hj0)] at hj;have hjlt:=(aI.1 hj).1;have h2:=aa3 (x:={ g:=0,fn:=fn1,pos:=pos1,act:=.go n }) (y:={ g:=n,fn:=fn2,pos:=pos2,act:=.start }) rfl rfl (h.one j gj hj)
    have h3:One P S w (t++ #[{ g:=0,fn:=fn1,pos:=pos1,act:=.go n },{ g:=n,fn:=fn2,pos:=pos2,act:=.start }]) s' γ j gj (θ j):=by
     cases xS:θ j with
     |lv k d=>rw [xS] at h2;exact h2
     |gP y=>
      rw [xS] at h2;obtain ⟨b1,b2⟩:=h2;refine ⟨b1.imp id λ⟨c1,c2,c3⟩=>⟨c1,?_,c3⟩,b2⟩;have Uk:stops θ j=some y.Tt:=by unfold stops;rw [xS];rfl
      exact ok.stay h.ai hlt hφ ((ok.Co _ hf).2 s) (ok.Co _ hf).1 (.inr ⟨Tc,hsp⟩) j y.Tt hjlt hj0 Uk c2
    refine Gm h3 (λy _ k=>other hj0 k) (λx=>by rw [hγ];exact .inl x) ?_
    rw [hγ];exact ⟨λx=>x.resolve_right e, λx=>.inl x⟩
 ·obtain ⟨y,hy⟩:=Uq;exact ⟨y,by rw [upd_ne (Ne.symm hn0),upd_same];exact hy⟩
 ·rcases Array.mem_append.1 hop with hop|hop
  ·have :=h.nums op hop;simp;omega
  ·have :op= { g:=0,fn:=fn1,pos:=pos1,act:=.go n }∨op= { g:=n,fn:=fn2,pos:=pos2,act:=.start }:=by simpa using hop
   rcases this with rfl|rfl<;>simp;omega
 ·have e:=(h.syn b hb).2 l h1 h2;rw [oK,mW l (by rw [e];simp)];exact e
 ·have e:=h.yH l hl;rw [oK,mW l (by rw [e];simp)];exact e
 ·rw [oK]
  by_cases hc:C l
  ·rw [vY l hc];exact ⟨by simp,by simp⟩
  ·rw [nY l hc];exact h.memo l hl
 ·rw [hγ] at hk;rcases hk with hk|rfl
  ·have :=h.Cr k hk;simp;omega
  ·simp [hn]
 ·obtain ⟨h2,h3⟩:=h.lk (hsame.free.1 hf');refine ⟨hsame.J G w h2, λb hb=>⟨(h3 b hb).1, λl h1 h2=>?_⟩⟩;have e:=(h3 b hb).2 l h1 h2;rw [oK,mW l (by rw [e];simp)];exact e
 ·obtain ⟨d1,d2,d3⟩:=h.dn;refine ⟨hsame.Dp D Dc w d1, λb hb=>⟨(d2 b hb).1, λl h1 h2=>?_⟩, λb k hb=>⟨(d3 b k hb).1,?_, λa e1 e2=>?_⟩⟩
  ·have e:=(d2 b hb).2 l h1 h2;rw [oK,mW l (by rw [e];simp)];exact e
  ·have e:=(d3 b k hb).2.1;rw [oK,mW _ (by rw [e];simp)];exact e
  ·have e:=(d3 b k hb).2.2 a e1 e2;rw [oK,mW _ (by rw [e];simp)];exact e
end
end
section
variable {O:Nat->Prop}
def sm:Nat->(Nat->Nat)->Nat
 |0,_=>0
 |n+1,f=>sm n f+f n
theorem I7 {f g:Nat->Nat}:∀{n:Nat},(∀j,j<n->f j<=g j)->sm n f<=sm n g
 |0,_=>aJ _
 |n+1,h=>by
  have h1:=I7 (f:=f) (g:=g) (n:=n) λj hj=>h j (by omega)
  have h2:=h n (by omega);show sm n f+f n<=sm n g+g n;omega
theorem Pj {f g:Nat->Nat} {i:Nat}:∀{n:Nat},i<n->f i<g i->(∀j,j<n->f j<=g j)->sm n f<sm n g
 |0,hi,_,_=>by omega
 |n+1,hi,hlt,h=>by
  show sm n f+f n<sm n g+g n
  by_cases e:i=n
  ·subst e;have h1:=I7 (f:=f) (g:=g) (n:=i) λj hj=>h j (by omega)
   omega
  ·have h1:=Pj (f:=f) (g:=g) (n:=n) (by omega) hlt λj hj=>h j (by omega)
   have h2:=h n (by omega);omega
section
variable {T Sh ρ:Type} {P:Program} {S:Sys T Sh} {AI:Nat->(Nat->Option T)->Sh->Prop} {free:Sh->Prop} {rk:Nat->(Nat->Option T)->Sh->ρ} {lt:ρ->ρ->Prop}
def TS.tree {T:Type}:TS T->Tr
 | .gP x=>x.tr
 | .lv _ _=>.leaf
def TS.left {T:Type}:TS T->Nat
 | .gP _=>0
 | .lv k _=>k
def trees {T:Type} (n:Nat) (θ:Nat->TS T):List Tr:=(List.range n).map λi=>(θ i).tree
def bit (gs:Array Goroutine) (i:Nat):Nat:=match gs[i]? with
 |some g=>match g.status with
  | .running=>1
  |_=>0
 |none=>0
abbrev Ms (ρ:Type):=ρ×List Tr×Nat×Nat
def ms (rk:Nat->(Nat->Option T)->Sh->ρ) (gs:Array Goroutine) (θ:Nat->TS T) (s:Sh):Ms ρ:=(rk gs.size (stops θ) s,trees gs.size θ,sm gs.size (λi=>(θ i).left),sm gs.size (bit gs))
def Wn (lt:ρ->ρ->Prop):Ms ρ->Ms ρ->Prop:=Prod.Lex lt (Prod.Lex (pF Tr.Sub) (Prod.Lex Nat.lt Nat.lt))
theorem Wn.wf (h:WellFounded lt):WellFounded (Wn (ρ:=ρ) lt):=(Prod.lex ⟨_,h⟩ (Prod.lex ⟨_,pF.wf Tr.wf⟩ (Prod.lex Nat.lt_wfRel Nat.lt_wfRel))).wf
theorem I8 {n i:Nat} {θ:Nat->TS T} {a:TS T}:trees n (upd θ i a)=(trees n θ).set i a.tree:=by
 apply List.ext_getElem?;intro j;unfold trees;rw [List.getElem?_set];simp only [List.getElem?_map,List.length_map,List.length_range]
 by_cases hj:i=j
 ·subst hj
  by_cases hi:i<n
  ·simp [hi,upd_same]
  ·simp [hi]
 ·by_cases hi:j<n
  ·simp [hi,hj,upd_ne (Ne.symm hj)]
  ·simp [hi,hj]
theorem I9 {n i:Nat} {θ:Nat->TS T} (hi:i<n):(trees n θ)[i]?=some (θ i).tree:=by
 unfold trees;simp [hi]
theorem Gn {θ:Nat->TS T} {i:Nat} {a:TS T} (h:a.stop?=(θ i).stop?):stops (upd θ i a)=stops θ:=by
 funext j;unfold stops
 by_cases hj:j=i
 ·subst hj;rw [upd_same];exact h
 ·rw [upd_ne hj]
theorem aa6 {gs:Array Goroutine} {w:World} {t:Trace} {θ:Nat->TS T} {s:Sh} {γ:Gh} {G D:Nat->Prop} {Dc:Nat->Nat->Prop} (h:MI P S AI free O gs w t θ s γ G D Dc):∀g∈gs,awake g:=by
 intro g hg;obtain ⟨i,hi,rfl⟩:=Array.mem_iff_getElem.1 hg;have h1:=h.one i gs[i] (aX hi);cases xS:θ i with
 |lv k d=>
  rw [xS] at h1;rcases h1.1.status with e|e<;>intro t ht<;>rw [e] at ht<;>cases ht
 |gP x=>
  rw [xS] at h1;have hrun:x.g.status= .running:=h1.2.1.running λ_ _ _=>lH
  rcases h1.1 with e|⟨_,_,e⟩<;>intro t ht<;>rw [e] at ht
  ·rw [hrun] at ht;cases ht
  ·cases ht
theorem MI.step (ok:uQ S AI free rk lt) {gs:Array Goroutine} {w:World} {sl:Option (Nat×Nat)} {t:Trace} {θ:Nat->TS T} {s:Sh} {γ:Gh} {G D:Nat->Prop} {Dc:Nat->Nat->Prop} (h:MI P S AI free O gs w t θ s γ G D Dc):
 (∃x,θ 0= .gP x∧gs[0]?=some x.g∧x.tr= .leaf∧S.ret x.Tt=true)∨
 ∃gs' w' sl' ops LU s' γ' G' D' Hu,stepT P (crowd gs w sl)=(.next (crowd gs' w' sl'),ops)∧MI P S AI free O gs' w' (t++ops) LU s' γ' G' D' Hu∧Wn lt (ms rk gs' LU s') (ms rk gs θ s):=by
 obtain ⟨x0,hx0⟩:=h.main
 by_cases hA:x0.tr= .leaf∧S.ret x0.Tt=true
 ·refine .inl ⟨x0,hx0,?_,hA⟩;have hp:=h.pos;have h1:=h.one 0 gs[0] (aX hp);rw [hx0] at h1;rcases h1.1 with e|⟨_,e,_⟩
  ·rw [<-e];exact aX hp
  ·exact absurd e (ok.NT _ _ hA.2)
 ·refine .inr ?_
  have some1:∃(i:Nat) (g:Goroutine),gs[i]?=some g∧g.status= .running:=by
   obtain ⟨i,Tt,hi,hφ,hnb⟩:=ok.alive h.ai;refine ⟨i,gs[i],aX hi,?_⟩;have h1:=h.one i gs[i] (aX hi);cases xS:θ i with
   |lv k d=>unfold stops at hφ;rw [xS] at hφ;cases hφ
   |gP x=>
    rw [xS] at h1;have :x.Tt=Tt:=by unfold stops at hφ;rw [xS] at hφ;exact aU hφ
    rcases h1.1 with e|⟨_,e,_⟩
    ·rw [e];exact h1.2.1.running λ_ _ _=>lH
    ·rw [this] at e;exact absurd e hnb
  obtain ⟨i,g,d,sl',hi,hg,hst⟩:=crowd_pick (P:=P) (w:=w) (sl:=sl) (aa6 h) some1;have hm:=MI.at ok h d;generalize w.at d=wd at hst hm;have hlt:=(aI.1 hi).1;have h1:=hm.one i g hi;cases xS:θ i with
  |lv k d'=>
   obtain ⟨k',d'',g',es,hk,hgo,hm'⟩:=MI.leaver hm hi xS hg;refine ⟨_,_,sl',_,_,s,γ,G,D,Dc,by rw [hst,runT_crowd_go hi hgo],hm',?_⟩;unfold ms Wn;have hsz:((gs.map (woken P g g' wd)).setIfInBounds i g').size=gs.size:=by simp
   rw [hsz,Gn (by rw [xS];rfl),I8]
   have htr:(trees gs.size θ).set i (TS.lv (T:=T) k' d'').tree=trees gs.size θ:=by
    apply List.ext_getElem?;intro j;rw [List.getElem?_set];split
    ·rename_i e;subst e;rw [I9 hlt,xS];split
     ·rfl
     ·rename_i e;unfold trees at e;simp at e;omega
    ·rfl
   rw [htr];refine .right _ (.right _ (.left _ _ ?_));refine Pj hlt (by rw [upd_same,xS];show k'<k;omega) λj _=>?_
   by_cases hj:j=i
   ·subst hj;rw [upd_same,xS];show k'<=k;omega
   ·rw [upd_ne hj];exact aJ _
  |gP x=>
   rw [xS] at h1
   have hgx:g=x.g:=by
    rcases h1.1 with e|⟨_,_,e⟩
    ·exact e
    ·rw [e] at hg;cases hg
   subst hgx;cases htr:x.tr with
   |node f=>
    obtain ⟨g',w',es,hgo,hm'⟩:=MI.private ok hm hi xS htr;refine ⟨_,_,sl',_,_,s,_,G,D,Dc,by rw [hst,runT_crowd_go hi hgo],hm',?_⟩;unfold ms Wn;have hsz:((gs.map (woken P x.g g' w')).setIfInBounds i g').size=gs.size:=by simp
    rw [hsz,Gn (by rw [xS];rfl),I8];refine .right _ (.left _ _ (pF.Ug (b:=.node f) ?_ ⟨f,wd,rfl,rfl⟩));rw [I9 hlt,xS];exact congrArg some htr
   |leaf=>
    obtain ⟨_,Ph,Gf,_⟩:=h1;rw [htr] at Ph;have aa7:=(Ph wd Gf).law;have hφ:stops θ i=some x.Tt:=by unfold stops;rw [xS];rfl
    obtain ⟨f1,f2,f3,f4⟩:=ok.fits hm.ai hlt hφ;obtain ⟨l1,l2,l3⟩:=aa7;have l4:=l3 s hm.rep f1
    by_cases hr:S.ret x.Tt=true
    ·exfalso;have h0:=f4 hr;subst h0;rw [hx0] at xS;cases xS;exact hA ⟨htr,hr⟩
    rw [aa hr] at l4;have hr':S.ret x.Tt=false:=by simpa using hr
    by_cases hf:S.fork x.Tt=true
    ·rw [aj hf] at l4;obtain ⟨T',Tc,s',g',child,sw,dL,a1,a2,a3,a4,a5,a6,a7⟩:=l4;have h0:=f3 hf;subst h0;obtain ⟨Wm,θc,γ',hm',hst'⟩:=MI.QU ok hm hi xS hf a1 a3 a4 a5 a6 a7 x.g.frame.fn child.frame.fn x.g.frame.place x.g.frame.place;refine ⟨_,_,sl',_,_,s',γ',G,D,Dc,by rw [hst,runT_crowd_spawn hi a2];rfl,hm',?_⟩;unfold ms Wn;have hsz:((gs.setIfInBounds 0 g').push child).size=gs.size+1:=by simp
     rw [hsz,hst'];exact .left _ _ (ok.spawn hm.ai hφ hf a1).2
    ·rw [aa hf] at l4;have hf':S.fork x.Tt=false:=by simpa using hf
     rcases l4 with ⟨hb,hgo⟩|⟨hb,T',s',g',w',es,a1,a2,a3,a4,a5,a6,a7⟩
     ·have hm':=MI.waits hm hi xS htr hb
      have hmap:(gs.map (woken P x.g { x.g with status:=.blocked } wd)).setIfInBounds i { x.g with status:=.blocked }=gs.setIfInBounds i { x.g with status:=.blocked }:=by
       have :woken P x.g { x.g with status:=.blocked } wd=id:=by
        funext o;unfold woken;simp
       rw [this,Array.map_id]
      refine ⟨_,_,sl',_,θ,s,γ,G,D,Dc,by rw [hst,runT_crowd_go hi hgo,hmap],by
       have e:MemOp.ofEvents i x.g.frame.fn x.g.frame.place #[]= #[]:=rfl;rw [e,Array.append_empty];exact hm',?_⟩
      unfold ms Wn;have hsz:(gs.setIfInBounds i { x.g with status:=.blocked }).size=gs.size:=by simp
      rw [hsz];refine .right _ (.right _ (.right _ ?_))
      have hbi:bit (gs.setIfInBounds i { x.g with status:=.blocked }) i=0:=by
       unfold bit;rw [aD hlt]
      have au7:bit gs i=1:=by
       unfold bit;rw [hi];simp only [hg]
      refine Pj hlt (by rw [hbi,au7];omega) λj _=>?_
      by_cases hj:j=i
      ·subst hj;rw [hbi];omega
      ·unfold bit;rw [au (Ne.symm hj)];exact aJ _
     ·have fin:∀{LU:Nat->TS T} {γ' G' D' Hu},MI P S AI free O ((gs.map (woken P x.g g' w')).setIfInBounds i g') w' (t++MemOp.ofEvents i x.g.frame.fn x.g.frame.place es) LU s' γ' G' D' Hu->stops LU=upd (stops θ) i (if S.quit T' then none else some T')->
       ∃gs' w' sl' ops LU s' γ' G' D' Hu,stepT P (crowd gs w sl)=(.next (crowd gs' w' sl'),ops)∧MI P S AI free O gs' w' (t++ops) LU s' γ' G' D' Hu∧Wn lt (ms rk gs' LU s') (ms rk gs θ s):=by
       intro LU γ' G' D' Hu hm' hst';refine ⟨_,_,sl',_,LU,s',γ',G',D',Hu,by rw [hst,runT_crowd_go hi a2],hm',?_⟩;unfold ms Wn;have hsz:((gs.map (woken P x.g g' w')).setIfInBounds i g').size=gs.size:=by simp
       rw [hsz,hst'];exact .left _ _ (ok.move hm.ai hlt hφ hf' hr' hb a1).2
      cases hk:S.kind x.Tt<;>rw [hk] at a7<;>dsimp only at a7
      case uO=>obtain ⟨uR,γ',G',b1,b2⟩:=MI.Xh ok hm hi xS hf' hr' hb a1 a3 a4 a5 a6 hk a7;exact fin b1 b2
      case uP=>obtain ⟨uR,γ',G',b1,b2⟩:=MI.Xi ok hm hi xS hf' hr' hb a1 a3 a4 a5 a6 hk a7;exact fin b1 b2
      case done=>obtain ⟨uR,γ',D',Hu,b1,b2⟩:=MI.Um ok hm hi xS hf' hr' hb a1 a3 a4 a5 a6 hk a7.1 a7.2;exact fin b1 b2
      case join=>obtain ⟨uR,γ',G',D',Hu,b1,b2⟩:=MI.Un ok hm hi xS hf' hr' hb a1 a3 a4 a5 a6 hk a7;exact fin b1 b2
      all_goals
       obtain ⟨uR,b1,b2⟩:=MI.QT ok hm hi xS hf' hr' hb a1 a3 a4 a5 a6 (by rw [hk];rfl) a7;exact fin b1 b2
theorem MI.run (ok:uQ S AI free rk lt):∀(μ:Ms ρ) {gs:Array Goroutine} {w:World} {sl:Option (Nat×Nat)} {t:Trace} {θ:Nat->TS T} {s:Sh} {γ:Gh} {G D:Nat->Prop} {Dc:Nat->Nat->Prop},ms rk gs θ s=μ->MI P S AI free O gs w t θ s γ G D Dc->
 ∃N gs' w' sl' t' LU s' γ' G' D' Hu x,runNT P N (crowd gs w sl) t=(.next (crowd gs' w' sl'),t')∧MI P S AI free O gs' w' t' LU s' γ' G' D' Hu∧LU 0= .gP x∧gs'[0]?=some x.g∧x.tr= .leaf∧S.ret x.Tt=true:=by
 intro μ
 induction μ using (Wn.wf ok.wf).induction with
 |_ μ ih=>
  intro gs w sl t θ s γ G D Dc hμ h;rcases MI.step (sl:=sl) ok h with ⟨x,h1,h2,h3,h4⟩|⟨gs1,w1,sl1,ops,θ1,s1,γ1,G1,D1,Dc1,h1,h2,h3⟩
  ·exact ⟨0,gs,w,sl,t,θ,s,γ,G,D,Dc,x,rfl,h,h1,h2,h3,h4⟩
  ·obtain ⟨N,gs',w',sl',t',LU,s',γ',G',D',Hu,x,r,rest⟩:=ih _ (by rw [<-hμ];exact h3) (sl:=sl1) rfl h2;exact ⟨N+1,gs',w',sl',t',LU,s',γ',G',D',Hu,x,by rw [runNT_succ_next h1];exact r,rest⟩
end
end
section
variable {O:Nat->Prop}
open Classical in
noncomputable def Ij (dead:Nat->Prop) (B:Nat):Gh:={ B:=B,who:= λl=>if fQ l then (if dead (lb l) then .sy else .gP 0) else .fr,live:= λg=>g=0,act:= λ_=>False,lock:=none,wg:=none }
structure QF (P:Program) (dead:Nat->Prop) (gs:Array Goroutine) (w:World) (t:Trace) (g:Goroutine):Prop where
 main:gs[0]?=some g
 lv:∀i g',i≠0->gs[i]?=some g'->∃k,QuitsD P k (Deaf t i) g'
 d0:Deaf t 0=0
 nums:∀op∈t,op.g<gs.size
 dlt:∀b,dead b->b<w.heap.size
 ti:TI (Ij dead w.heap.size) t
def Z0:gB:={ ro:= λ_=>False,sy:= λ_=>False,cl:= λ_ _=>False }
def Ends (P:Program) (Post:Value->World->Prop) (m:Machine) (t:Trace):Prop:=
 ∃N last o w' t',runNT P (N+1) m t=(.ended o w',t')∧runN P N m= .next last∧step P last= .ended o w'∧Good P Post last o w' t'
theorem Ends.after {P:Program} {Post:Value->World->Prop} {m m':Machine} {t t':Trace} {N:Nat} (h:runNT P N m t=(.next m',t')) (he:Ends P Post m' t'):Ends P Post m t:=by
 obtain ⟨K,last,o,w',t'',h1,h2,h3,h4⟩:=he;refine ⟨N+K,last,o,w',t'',?_,?_,h3,h4⟩
 ·rw [Nat.add_assoc,runNT_add,h];exact h1
 ·have :=runNT_fst P N m t;rw [h] at this;rw [runN_add, <-this];exact h2
def jK (P:Program) (Post:Value->World->Prop) (dead own:Nat->Prop) (g:Goroutine) (W:World):Prop:=
 g.status= .running∧g.offers=none∧((∀b,own b->b<W.heap.size∧¬dead b)->∀W1,dZ Z0 own W W1->∀gs t sl,QF P dead gs W1 t g->Ends P Post (crowd gs W1 sl) t)
section
variable {T Sh ρ:Type} {P:Program} {S:Sys T Sh} {AI:Nat->(Nat->Option T)->Sh->Prop} {free:Sh->Prop} {rk:Nat->(Nat->Option T)->Sh->ρ} {lt:ρ->ρ->Prop} {Post:Value->World->Prop} {dead own:Nat->Prop} {g:Goroutine} {W w:World}
structure Y5 (P:Program) (S:Sys T Sh) (AI:Nat->(Nat->Option T)->Sh->Prop) (free:Sh->Prop) (dead own:Nat->Prop) (g:Goroutine) (w:World) (T0:T) (s0:Sh) (Ro Gl Pt O:Nat->Prop):Prop where
 rR:∀b,dead b->S.syn b∨O b
 old:∀b,O b->b<w.heap.size∧¬S.syn b∧¬own b∧¬Ro b∧¬Gl b∧¬Pt b
 syn:∀b,S.syn b->b<w.heap.size
 dL:∀b,own b->b<w.heap.size∧¬S.syn b∧¬Ro b∧¬Gl b∧¬Pt b
 ro:∀b,Ro b->b<w.heap.size∧¬S.syn b
 gl:∀b,Gl b->b<w.heap.size∧¬S.syn b∧¬Ro b
 pt:∀b,Pt b->b<w.heap.size∧¬S.syn b∧¬Ro b∧¬Gl b
 zro:∀b,(S.Z 0 T0).ro b->Ro b
 zsy:∀b,(S.Z 0 T0).sy b->S.syn b∨Pt b
 zcl:∀b k,(S.Z 0 T0).cl b k->(S.Z 0 T0).sy b∧Pt b
 ai:∀n,0<n->AI n (λi=>if i=0 then some T0 else none) s0
 quit:S.quit T0=false
 deaf:S.deaf T0=0
 rep:S.Ey s0 w
 j:free s0->S.J s0 Gl w
 dp:S.Dp s0 (λ_=>False) (λ_ _=>False) w
 wg:S.nW s0=none->∀b,¬Ro b∧¬Gl b∧¬Pt b
 on:On P S (At P S) 0 T0 own g w
theorem QF.open {gs:Array Goroutine} {t:Trace} (hq:QF P dead gs w t g) {T0:T} {s0:Sh} {Ro Gl Pt:Nat->Prop} (o:Y5 P S AI free dead own g w T0 s0 Ro Gl Pt O):
 ∃θ γ,MI P S AI free O gs w t θ s0 γ Gl (λ_=>False) (λ_ _=>False):=by
 classical
 have hlt:=(aI.1 hq.main).1;obtain ⟨eu,jH⟩:∃eu:Loc->Who,eu= λl=>if fQ l then (if S.syn (lb l)∨O (lb l) then .sy else if Ro (lb l) then .ro else if Gl (lb l) then .lk else if Pt (lb l)∧l= .obj (lb l) then .pt else .gP 0) else .fr:=⟨_,rfl⟩
 have Xj:∀l,fQ l->S.syn (lb l)∨O (lb l)->eu l= .sy:= λl h1 h2=>by rw [jH];simp [h1,h2]
 have wro:∀l,fQ l->¬(S.syn (lb l)∨O (lb l))->Ro (lb l)->eu l= .ro:= λl h1 h2 h3=>by rw [jH];simp [h1,h2,h3]
 have wlk:∀l,fQ l->¬(S.syn (lb l)∨O (lb l))->¬Ro (lb l)->Gl (lb l)->eu l= .lk:= λl h1 h2 h3 h4=>by rw [jH];simp [h1,h2,h3,h4]
 have wpt:∀b,¬(S.syn b∨O b)->¬Ro b->¬Gl b->Pt b->eu (.obj b)= .pt:= λb h2 h3 h4 h5=>by
  rw [jH];have h1:fQ (.obj b):=trivial;have e:lb (.obj b)=b:=rfl;simp only [h1,e,h2,h3,h4,h5,if_true,if_false,and_self]
 have Y2:∀l,fQ l->¬(S.syn (lb l)∨O (lb l))->¬Ro (lb l)->¬Gl (lb l)->¬(Pt (lb l)∧l= .obj (lb l))->eu l= .gP 0:= λl h1 h2 h3 h4 h5=>by rw [jH];simp only [h1,h2,h3,h4,h5,if_true,if_false]
 have wfr:∀l,¬fQ l->eu l= .fr:= λl h1=>by rw [jH];simp [h1]
 have q0:∀l,fQ l->¬dead (lb l)->(Ij dead w.heap.size).who l= .gP 0:= λl h1 h2=>by unfold Ij;simp [h1,h2]
 have q1:∀l,fQ l->dead (lb l)->(Ij dead w.heap.size).who l= .sy:= λl h1 h2=>by unfold Ij;simp [h1,h2]
 have q2:∀l,¬fQ l->(Ij dead w.heap.size).who l= .fr:= λl h1=>by unfold Ij;simp [h1]
 obtain ⟨γ,hγ⟩:∃γ:Gh,γ= { Ij dead w.heap.size with who:=eu,wg:=S.nW s0,lock:=S.gq s0 }:=⟨_,rfl⟩;have oK:γ.who=eu:=by rw [hγ]
 have hti:TI γ t:=by
  rw [hγ];refine hq.ti.al9 (λg hg=>hg) (λl=>?_) (λ_ _ h=>h) rfl rfl _ _
  by_cases hm:fQ l
  ·by_cases hd:dead (lb l)
   ·exact .inl (by rw [q1 l hm hd,Xj l hm (o.rR _ hd)])
   ·by_cases h2:S.syn (lb l)∨O (lb l)
    ·exact .inr ⟨q0 l hm hd,.inr (.inr (.inl (Xj l hm h2)))⟩
    by_cases h3:Ro (lb l)
    ·exact .inr ⟨q0 l hm hd,.inl (wro l hm h2 h3)⟩
    by_cases h4:Gl (lb l)
    ·exact .inr ⟨q0 l hm hd,.inr (.inl (wlk l hm h2 h3 h4))⟩
    by_cases h5:Pt (lb l)∧l= .obj (lb l)
    ·have :=wpt _ h2 h3 h4 h5.1;rw [<-h5.2] at this;exact .inr ⟨q0 l hm hd,.inr (.inr (.inr this))⟩
    ·exact .inl (by rw [Y2 l hm h2 h3 h4 h5,q0 l hm hd])
  ·exact .inl (by rw [wfr l hm,q2 l hm])
 have noO:∀b,own b∨Ro b∨Gl b∨Pt b->¬S.syn b->¬(S.syn b∨O b):= λb hb hs hx=>by
  rcases hx with hx|hx
  ·exact hs hx
  ·obtain ⟨_,_,a1,a2,a3,a4⟩:=o.old b hx;rcases hb with hb|hb|hb|hb
   ·exact a1 hb
   ·exact a2 hb
   ·exact a3 hb
   ·exact a4 hb
 have hR:gJ γ w.heap.size 0 (S.Z 0 T0) own:=by
  refine ⟨λb hb=>⟨(o.dL b hb).1, λl h1 h2=>?_⟩, λb c hb=>⟨(o.zcl b c hb).1,?_, λa e1 e2=>?_⟩, λb hb=>⟨(o.ro b (o.zro b hb)).1, λl h1 h2=>?_⟩, λb hb=>?_⟩
  ·obtain ⟨_,a1,a2,a3,a4⟩:=o.dL b hb;rw [oK];exact Y2 l h1 (by rw [h2];exact noO b (.inl hb) a1) (by rw [h2];exact a2) (by rw [h2];exact a3) (by rw [h2];exact λx=>a4 x.1)
  ·obtain ⟨_,a1,a2,a3⟩:=o.pt b (o.zcl b c hb).2;rw [oK];exact wpt b (noO b (.inr (.inr (.inr (o.zcl b c hb).2))) a1) a2 a3 (o.zcl b c hb).2
  ·obtain ⟨_,a1,a2,a3⟩:=o.pt b (o.zcl b c hb).2;rw [oK];exact Y2 _ trivial (by show ¬(S.syn a.block∨O a.block);rw [e1];exact noO b (.inr (.inr (.inr (o.zcl b c hb).2))) a1) (by show ¬Ro a.block;rw [e1];exact a2) (by show ¬Gl a.block;rw [e1];exact a3) (λx=>by cases x.2)
  ·obtain ⟨_,a1⟩:=o.ro b (o.zro b hb);rw [oK];exact wro l h1 (by rw [h2];exact noO b (.inr (.inl (o.zro b hb))) a1) (by rw [h2];exact o.zro b hb)
  ·rcases o.zsy b hb with h1|h1
   ·exact ⟨o.syn b h1,.inl (by rw [oK];exact Xj (.obj b) trivial (.inl h1))⟩
   ·obtain ⟨a0,a1,a2,a3⟩:=o.pt b h1;exact ⟨a0,.inr (by rw [oK];exact wpt b (noO b (.inr (.inr (.inr h1))) a1) a2 a3 h1)⟩
 obtain ⟨Wm,aa5,Uo,Uq⟩:=uS (s':=s0) (t':=t) o.quit o.on (by rw [hq.d0,o.deaf]) (γ':=γ) (by rw [hγ];rfl) (λh0=>absurd rfl h0) hR;rw [aa (by rw [o.quit];simp)] at Uo
 let θ:Nat->TS T:= λi=>if i=0 then Wm else if h:∃g' k,gs[i]?=some g'∧QuitsD P k (Deaf t i) g' then .lv h.choose_spec.choose (Deaf t i) else .lv 0 0
 have au8:∀i g',i≠0->gs[i]?=some g'->∃k,θ i= .lv k (Deaf t i)∧QuitsD P k (Deaf t i) g':=by
  intro i g' h0 hg;obtain ⟨k,hk⟩:=hq.lv i g' h0 hg;have h:∃g' k,gs[i]?=some g'∧QuitsD P k (Deaf t i) g':=⟨g',k,hg,hk⟩
  refine ⟨h.choose_spec.choose,?_,?_⟩
  ·show (if i=0 then Wm else if h:∃g' k,gs[i]?=some g'∧QuitsD P k (Deaf t i) g' then TS.lv h.choose_spec.choose (Deaf t i) else .lv 0 0)=_;rw [aa h0,dif_pos h]
  ·have h3:=h.choose_spec.choose_spec;have e:g'=h.choose:=aU (hg.symm.trans h3.1);rw [e];exact h3.2
 have hstops:stops θ= λi=>if i=0 then some T0 else none:=by
  funext i;unfold stops
  by_cases h0:i=0
  ·subst h0;exact Uo
  ·show (if i=0 then Wm else if h:∃g' k,gs[i]?=some g'∧QuitsD P k (Deaf t i) g' then TS.lv h.choose_spec.choose (Deaf t i) else .lv 0 0).stop?=_;rw [aa h0,aa h0];split<;>rfl
 refine ⟨θ,γ,⟨λi gi hi=>?_,Uq,hlt,by rw [hstops];exact o.ai _ hlt,o.rep,hti,by rw [hγ];rfl,hq.nums, λb hb=>⟨hb.elim (o.syn b) λx=>(o.old b x).1, λl h1 h2=>by rw [oK];exact Xj l h1 (by rw [h2];exact hb)⟩, λl hl=>by rw [oK];exact wfr l hl, λl hl=>?_, λi hi=>?_, λhn l hl hs=>?_,by rw [hγ],by rw [hγ], λhf=>⟨o.j hf, λb hb=>⟨(o.gl b hb).1, λl h1 h2=>?_⟩⟩,o.dp, λb hb=>hb.elim, λb k hb=>hb.elim⟩⟩
 ·by_cases h0:i=0
  ·subst h0;rw [hq.main] at hi;cases hi;exact aa5
  ·obtain ⟨k,h1,h2⟩:=au8 i gi h0 hi;rw [h1];exact ⟨h2,rfl,h0, λha=>by rw [hγ] at ha;exact ha⟩
 ·rw [oK]
  by_cases h2:S.syn (lb l)∨O (lb l)
  ·rw [Xj l hl h2];exact ⟨by simp, λ_=>h2⟩
  by_cases h3:Ro (lb l)
  ·rw [wro l hl h2 h3];exact ⟨by simp,by simp⟩
  by_cases h4:Gl (lb l)
  ·rw [wlk l hl h2 h3 h4];exact ⟨by simp,by simp⟩
  by_cases h5:Pt (lb l)∧l= .obj (lb l)
  ·have :=wpt _ h2 h3 h4 h5.1;rw [<-h5.2] at this;rw [this];exact ⟨by simp,by simp⟩
  ·rw [Y2 l hl h2 h3 h4 h5];exact ⟨by simp,by simp⟩
 ·rw [hγ] at hi;exact hi.elim
 ·obtain ⟨a1,a2,a3⟩:=o.wg hn (lb l);rw [oK];exact Y2 l hl hs a1 a2 (λx=>a3 x.1)
 ·obtain ⟨_,a1,a2⟩:=o.gl b hb;rw [oK];exact wlk l h1 (by rw [h2];exact noO b (.inr (.inr (.inl hb))) a1) (by rw [h2];exact a2) (by rw [h2];exact hb)
theorem MI.close {gs:Array Goroutine} {t:Trace} {θ:Nat->TS T} {s:Sh} {γ:Gh} {G D:Nat->Prop} {Dc:Nat->Nat->Prop} (h:MI P S AI free O gs w t θ s γ G D Dc)
 {x:Ui T} (h0:gs[0]?=some x.g) (hx:θ 0= .gP x) (hl:S.gq s=none) (hw:S.nW s=none) (hd:S.deaf x.Tt=0) (hj:∀j,j<gs.size->j≠0->stops θ j=none):
 QF P (λb=>S.syn b∨O b) gs w t x.g∧∀b,x.own b->b<w.heap.size∧¬(S.syn b∨O b):=by
 classical
 have h1:=h.one 0 x.g h0;rw [hx] at h1;obtain ⟨_,_,_,nT,oG,_,eT⟩:=h1
 have lvs:∀i g',i≠0->gs[i]?=some g'->∃k d,θ i= .lv k d∧QuitsD P k d g'∧Deaf t i=d∧¬γ.act i:=by
  intro i g' hi hg;have h1:=h.one i g' hg;cases xS:θ i with
  |gP y=>
   have :=hj i (aI.1 hg).1 hi;unfold stops at this;rw [xS] at this;cases this
  |lv k d=>rw [xS] at h1;exact ⟨k,d,rfl,h1.1,h1.2.1,h1.2.2.2⟩
 have hno:∀i,i≠0->¬γ.act i:= λi hi ha=>by
  have hlt:=h.Cr i ha;obtain ⟨_,_,_,_,_,hn⟩:=lvs i gs[i] hi (aX hlt);exact hn ha
 have jH:γ.who=(Ij (λb=>S.syn b∨O b) w.heap.size).who:=by
  funext l
  by_cases hm:fQ l
  ·by_cases hs:S.syn (lb l)∨O (lb l)
   ·rw [(h.syn _ hs).2 l hm rfl];unfold Ij;simp [hm,hs]
   ·rw [h.jn hw l hm hs];unfold Ij;simp [hm,hs]
  ·rw [h.yH l hm];unfold Ij;simp [hm]
 refine ⟨⟨h0, λi g' hi hg=>?_,by rw [nT,hd],h.nums, λb hb=>(h.syn b hb).1,?_⟩, λb hb=>⟨(eT.own b hb).1, λhs=>?_⟩⟩
 ·obtain ⟨k,d,_,h2,h3,_⟩:=lvs i g' hi hg;exact ⟨k,by rw [h3];exact h2⟩
 ·have hti:=h.ti;have hnw:=hti.new;rw [h.B] at hnw;refine ⟨λl i hl=>hti.gP l i (by rw [jH];exact hl), λl i hl hlv=>hti.ro l i (by rw [jH];exact hl) (by have hlv:i=0:=hlv;rw [hlv];exact oG), λi z op hs hz hop=>?_, λl i z hl hz e=>?_,hnw, λi op hi hg hs=>?_,hti.nr,hti.nl⟩
  ·refine (hti.sy i z op (by rw [jH];exact hs) hz hop).imp id λh1 k hk=>?_
   have hk:k=0:=hk;rw [hk];exact h1 0 oG
  ·exfalso;have hl:(Ij (λb=>S.syn b∨O b) w.heap.size).who l= .lk:=hl;unfold Ij at hl;dsimp only at hl;split at hl
   ·split at hl<;>cases hl
   ·cases hl
  ·have hs':Says γ t i:=hs.imp id λ⟨z,hz,hn⟩=>⟨z,hz,by rw [jH];exact hn⟩
   rcases hti.ho i op hi hg hs' with h2|h2|⟨a0,h2,_⟩
   ·exact absurd h2 (hno _ hg)
   ·exact .inr (.inl h2)
   ·rw [h.nW,hw] at h2;cases h2
 ·have :=((h.syn b hs).2 (.obj b) trivial rfl).symm.trans (eT.nX hb);cases this
end
end
section
section
variable {P:Program} {Post:Value->World->Prop} {dead own:Nat->Prop} {g:Goroutine} {W w:World}
theorem jK.rely {W1:World} (h:jK P Post dead own g W) (hlt:∀b,own b->b<W.heap.size) (hr:dZ Z0 own W W1):jK P Post dead own g W1:=
 ⟨h.1,h.2.1, λho W2 h2=>h.2.2 (λb hb=>⟨hlt b hb,(ho b hb).2⟩) W2 (hr.trans h2)⟩
theorem jK.phase {T Sh ρ:Type} {S:Sys T Sh} {AI:Nat->(Nat->Option T)->Sh->Prop} {free:Sh->Prop} {rk:Nat->(Nat->Option T)->Sh->ρ} {lt:ρ->ρ->Prop} (ok:uQ S AI free rk lt)
 (fin:∀{n φ s Tt},AI n φ s->0<n->φ 0=some Tt->S.ret Tt=true->S.gq s=none∧S.nW s=none∧S.deaf Tt=0∧∀j,j<n->j≠0->φ j=none)
 (hg:g.status= .running) (hoff:g.offers=none)
 (h:∀W1,dZ Z0 own W W1->(∀b,dead b->b<W1.heap.size)->(∀b,own b->b<W1.heap.size∧¬dead b)->∃eG T0 s0 Ro Gl Pt O,Y5 P S AI free dead eG g W1 T0 s0 Ro Gl Pt O∧
   ∀Tt own g W,S.ret Tt=true->S.Anch Tt own g W->(∀b,own b->b<W.heap.size∧¬(S.syn b∨O b))->jK P Post (λb=>S.syn b∨O b) own g W):jK P Post dead own g W:=by
 refine ⟨hg,hoff, λho W1 hr gs t sl hq=>?_⟩;obtain ⟨eG,T0,s0,Ro,Gl,Pt,O,o,hk⟩:=h W1 hr hq.dlt λb hb=>⟨aK (ho b hb).1 hr.size,(ho b hb).2⟩
 obtain ⟨θ,γ,hm⟩:=hq.open o;obtain ⟨N,gs',w',sl',t',LU,s',γ',G',D',Hu,x,hrun,hm',hx,hgx,hl,oO⟩:=MI.run (sl:=sl) ok _ rfl hm;have hφ:stops LU 0=some x.Tt:=by unfold stops;rw [hx];rfl
 obtain ⟨f1,f2,f3,f4⟩:=fin hm'.ai hm'.pos hφ oO;obtain ⟨hq',hown⟩:=hm'.close hgx hx f1 f2 f3 f4;have h1:=hm'.one 0 x.g hgx;rw [hx] at h1;obtain ⟨_,Ph,Gf,_⟩:=h1;rw [hl] at Ph;have aa7:=(Ph w' Gf).law;have hA:=aa7.2.2 s' hm'.rep (ok.fits hm'.ai hm'.pos hφ).1;rw [aj oO] at hA;exact Ends.after hrun ((hk _ _ _ _ oO hA hown).2.2 hown w' (dZ.refl _) gs' t' sl' hq')
def quiet (dead:Nat->Prop) (X:(Nat->Prop)->Goroutine->World->Prop):Sys Unit Unit where
 Ey:= λ_ _=>True
 syn:=dead
 gq:= λ_=>none
 nW:= λ_=>none
 mv:= λ_ _ _ _ _=>False
 sp:= λ_ _ _ _ _=>False
 blk:= λ_ _=>False
 wakes:= λ_=>false
 kind:= λ_=>.disable
 fork:= λ_=>false
 ret:= λ_=>true
 quit:= λ_=>false
 deaf:= λ_=>0
 past:= λ_=>false
 Z:= λ_ _=>Z0
 J:= λ_ _ _=>True
 Dp:= λ_ _ _ _=>True
 fits:= λ_ _ _=>True
 Anch:= λ_=>X
def Xk (n:Nat) (φ:Nat->Option Unit) (_:Unit):Prop:=0<n∧φ= λi=>if i=0 then some () else none
theorem Xl (dead:Nat->Prop) (X:(Nat->Prop)->Goroutine->World->Prop):uQ (quiet dead X) Xk (λ_=>False) (λ_ _ _=>(0:Nat)) Nat.lt where
 wf:=Nat.lt_wfRel.wf
 fits:= λ{n φ s i Tt} h hi hφ=>by
  refine ⟨trivial,rfl, λh=>(by cases h), λ_=>?_⟩;obtain ⟨_,rfl⟩:=h;dsimp only at hφ;split at hφ
  ·assumption
  ·cases hφ
 move:= λ_ _ _ _ _ _ h=>h.elim
 spawn:= λ_ _ _ h=>h.elim
 NS:= λ_ _ _ h=>h.elim
 stay:= λ_ _ _ _ _ h=>h.elim (λh=>h.elim) (λ⟨_,h⟩=>h.elim)
 Co:= λ_ h=>by cases h
 jG:= λ_ _ _ h=>h.elim
 plain:= λ_ _ _ h=>h.elim
 uO:= λ_ _ _ h=>h.elim
 uP:= λ_ _ _ h=>h.elim
 done:= λ_ _ _ h=>h.elim
 join:= λ_ _ _ h=>h.elim
 joined:= λh _ j _ hj=>by obtain ⟨_,rfl⟩:=h;exact aa hj
 quits:= λ_ _ _ h=>h.elim
 J3:= λ_ _ _=>⟨λh=>(by cases h), λh=>(by cases h)⟩
 alive:= λh=>by obtain ⟨h1,rfl⟩:=h;exact ⟨0,(),h1,rfl, λh=>h⟩
 NT:= λ_ _ _ h=>h
 I4:= λ_ _ _ _=>trivial
 zH:= λ_ _ _ _ _=>trivial
 zf:= λ_ _ _ _ _ _=>trivial
 Cq:= λ_ _ _ _ _ _ _ _=>trivial
theorem jK.walk (h:Gw P true Z0 (λown g W=>jK P Post dead own g W) own g W) (hg:g.status= .running) (hoff:g.offers=none):jK P Post dead own g W:=by
 refine jK.phase (S:=quiet dead λown g W=>jK P Post dead own g W) (Xl dead _) (λ{n φ s Tt} h hn h0 hr=>⟨rfl,rfl,rfl, λj _ hj=>by obtain ⟨_,rfl⟩:=h;exact aa hj⟩) hg hoff (λW1 hr hd ho=>?_);have eD:(λb=>(quiet dead λown g W=>jK P Post dead own g W).syn b∨False)=dead:=funext λb=>propext ⟨λh=>h.elim id az,.inl⟩
 refine ⟨own,(),(), λ_=>False, λ_=>False, λ_=>False, λ_=>False,⟨λ_ h=>.inl h, λ_ h=>az h,hd, λb hb=>⟨(ho b hb).1,(ho b hb).2, λh=>h, λh=>h, λh=>h⟩, λ_ h=>h.elim, λ_ h=>h.elim, λ_ h=>h.elim, λ_ h=>h.elim, λ_ h=>h.elim, λ_ _ h=>h.elim, λn hn=>⟨hn,rfl⟩,rfl,rfl,trivial, λh=>h.elim,trivial, λ_ _=>⟨λh=>h, λh=>h, λh=>h⟩,?_⟩, λ_ _ _ _ _ h _=>by rw [eD];exact h⟩;unfold On;rw [aa (by show ¬(false=true);simp)];refine Gw.mono (λown g W hl=>?_) (h.rely hr);refine At.intro (X:= λi _ own g W=>i=0∧jK P Post dead own g W) (λi Tt own g W hx=>?_) ⟨rfl,hl⟩;refine ⟨hx.2.1, λ_=>hx.2.2.1, λs _ _=>?_⟩;exact (aj (c:=(quiet dead λown g W=>jK P Post dead own g W).ret Tt=true) rfl).mpr hx.2
theorem QW {t u:Trace} {B:Nat} (h:TI (Ij dead B) t) (hu:∀op∈u,op.g=0) (hok:∀op∈u,∀x,op.act.touch?=some x->OkT (Ij dead B).who 0 x∧(fQ x.loc->lb x.loc<B)) (hr:∀op∈u,∀a,op.act≠ .mark (.release a)):TI (Ij dead B) (t++u):=
 TI.app (γ:=Ij dead B) (B':=B) h (aJ _) rfl hu hok (.inl rfl) hr
theorem QF.ends (hstep:∀W1,dZ Z0 own W W1->∃v W2 es,stepG P true g W1= .ended (.done v) W2 es∧(∀e∈es,QB Z0 own e)∧Post v W2) (hg:g.status= .running):∀(M:Nat) (q:Nat->Nat) {gs:Array Goroutine} {w:World} {sl:Option (Nat×Nat)} {t:Trace},sm gs.size q<M->
 dZ Z0 own W w->(∀b,own b->b<w.heap.size∧¬dead b)->QF P dead gs w t g->(∀i g',i≠0->gs[i]?=some g'->QuitsD P (q i) (Deaf t i) g')->Ends P Post (crowd gs w sl) t:=by
 intro M
 induction M with
 |zero=>intro q gs w sl t hM;omega
 |succ M ih=>
  intro q gs w sl t hM hr ho hq hlv;have hlt:=(aI.1 hq.main).1
  have haw:∀g∈gs,awake g:=by
   intro g' hg';obtain ⟨i,hi,rfl⟩:=Array.mem_iff_getElem.1 hg'
   by_cases h0:i=0
   ·subst h0;have :gs[0]=g:=by simpa [aX hi] using hq.main
    rw [this];intro t ht;rw [hg] at ht;cases ht
   ·rcases (hlv i _ h0 (aX hi)).status with e|e<;>intro t ht<;>rw [e] at ht<;>cases ht
  obtain ⟨i,gi,d,sl',hi,hgi,hst⟩:=crowd_pick (P:=P) (w:=w) (sl:=sl) haw ⟨0,g,hq.main,hg⟩;have hrd:dZ Z0 own W (w.at d):=hr.trans (Pg w d)
  by_cases h0:i=0
  ·subst h0;obtain rfl:gi=g:=by rw [hq.main] at hi;exact (aU hi).symm
   obtain ⟨v,W2,es,hend,hes,hpost⟩:=hstep (w.at d) hrd;have hrunT:=runT_many_ended (P:=P) (sl:=sl') (i:=0) hi (show stepG P (0==0) gi (w.at d)=_ from hend);have hs:=hst.trans hrunT
   have hti:TI (Ij dead w.heap.size) (t++MemOp.ofEvents 0 gi.frame.fn gi.frame.place es):=by
    refine QW hq.ti (λop hop=>by obtain ⟨e,_,rfl⟩:=mem_ofEvents hop;rfl) (λop hop x hx=>?_) (λop hop a=>?_)
    ·obtain ⟨e,he,rfl⟩:=mem_ofEvents hop;obtain ⟨_,hev⟩:=hes e he;obtain ⟨loc,wr,sy⟩:=e;have q0:∀l,fQ l->¬dead (lb l)->(Ij dead w.heap.size).who l= .gP 0:= λl h1 h2=>by unfold Ij;simp [h1,h2]
     cases loc with
     |cell a=>
      obtain ⟨hs,hor⟩:=hev;have hs:sy=false:=hs;subst hs
      have hx':x=⟨.cell a,wr,.plain⟩:=by
       have :(MemAct.ofEvent ⟨.cell a,wr,false⟩).touch?=some ⟨.cell a,wr,.plain⟩:=by cases wr<;>rfl
       rw [this] at hx;exact (aU hx).symm
      subst hx';have ho':own a.block:=hor.elim (λh=>h) λh=>h.elim (λh=>h.1.elim) λh=>h.elim
      exact ⟨.inl (q0 _ trivial (ho _ ho').2), λ_=>(ho _ ho').1⟩
     |obj r=>
      obtain ⟨hs,hor⟩:=hev;have hs:sy=false:=hs;subst hs
      have hx':x=⟨.obj r,wr,.plain⟩:=by
       have :(MemAct.ofEvent ⟨.obj r,wr,false⟩).touch?=some ⟨.obj r,wr,.plain⟩:=by cases wr<;>rfl
       rw [this] at hx;exact (aU hx).symm
      subst hx';exact ⟨.inl (q0 _ trivial (ho _ hor).2), λ_=>(ho _ hor).1⟩
     |mark m=>
      have hm:m= .noRoom:=hev;subst hm;exfalso;have :(MemAct.ofEvent ⟨.mark .noRoom,wr,sy⟩).touch?=none:=by cases wr<;>cases sy<;>rfl
      rw [this] at hx;cases hx
     |output=>exact hev.elim
     |goroutines=>exact hev.elim
    ·obtain ⟨e',he,rfl⟩:=mem_ofEvents hop;obtain ⟨_,hev⟩:=hes e' he;obtain ⟨loc,wr,sy⟩:=e';intro e;cases loc with
     |mark m=>
      have hm:m= .noRoom:=hev;subst hm;have :MemAct.ofEvent ⟨.mark .noRoom,wr,sy⟩= .mark .noRoom:=by cases wr<;>cases sy<;>rfl
      have e:MemAct.ofEvent ⟨.mark .noRoom,wr,sy⟩= .mark (.release a):=e;rw [this] at e;cases e
     |cell _=>
      have e:MemAct.ofEvent ⟨.cell _,wr,sy⟩= .mark (.release a):=e;cases wr<;>cases sy<;>cases e
     |obj _=>
      have e:MemAct.ofEvent ⟨.obj _,wr,sy⟩= .mark (.release a):=e;cases wr<;>cases sy<;>cases e
     |output=>exact hev.elim
     |goroutines=>exact hev.elim
   refine ⟨0,crowd gs w sl,.done v,W2,_,by simp only [runNT,hs],rfl,?_,v,rfl,hpost,hti.nr,handed λi op hi hg hc=>?_,⟨λx hx=>?_,rfl⟩, λj x hx hj=>?_⟩
   ·simp only [step,hs]
   ·rcases hti.ho i op hi hg (.inl hc) with h1|h1|⟨a0,h1,_⟩
    ·exact h1.elim
    ·exact h1
    ·cases h1
   ·obtain ⟨j,hj⟩:=List.mem_iff_getElem?.1 hx;rw [List.getElem?_drop] at hj;exact ⟨_,(hlv (1+j) x (by omega) (by simpa [crowd] using hj)).leaves⟩
   ·have hqj:=hlv j x (by omega) hx;refine ⟨q j,?_⟩
    have e:(t++MemOp.ofEvents 0 gi.frame.fn gi.frame.place es).deaf j (t++MemOp.ofEvents 0 gi.frame.fn gi.frame.place es).size=Deaf t j:=
     Deaf_other t (g:=j) (g':=0) (by omega) _ (λop hop=>by obtain ⟨e,_,rfl⟩:=mem_ofEvents hop;rfl)
    rw [e];exact hqj.hears _
  ·have hqi:=hlv i gi h0 hi;have hi0:(i==0)=false:=by simpa using h0
   have aa8:=(aI.1 hi).1;cases hk:q i with
   |zero=>rw [hk] at hqi;rw [hqi.1] at hgi;cases hgi
   |succ k=>
    rw [hk] at hqi;rcases hqi with ⟨hf,_⟩|⟨_,g',es,hm,hstp,hq'⟩
    ·rw [hf] at hgi;cases hgi
    have hdec:sm gs.size (upd q i k)<sm gs.size q:=Pj aa8 (by rw [upd_same,hk];omega) λj _=>by
     by_cases hj:j=i
     ·subst hj;rw [upd_same,hk];omega
     ·rw [upd_ne hj];exact aJ _
    have hrunT:=runT_crowd_go (P:=P) (sl:=sl') (i:=i) hi (by rw [hi0];exact hstp (w.at d));have hsz:((gs.map (woken P gi g' (w.at d))).setIfInBounds i g').size=gs.size:=by simp
    have am6:∀j x,j≠0->((gs.map (woken P gi g' (w.at d))).setIfInBounds i g')[j]?=some x->QuitsD P (upd q i k j) (Deaf (t++MemOp.ofEvents i gi.frame.fn gi.frame.place es) j) x:=by
     intro j x hj hx
     by_cases hji:i=j
     ·subst hji;rw [aD (by simpa using aa8)] at hx;obtain rfl:=aU hx;rw [upd_same,Deaf_own];exact hq'
     ·rw [au hji,aG] at hx;obtain ⟨y,hy,rfl⟩:=Option.map_eq_some_iff.1 hx;have hqj:=hlv j y hj hy;rw [woken_quitsD hqj,upd_ne (Ne.symm hji),Deaf_other t hji _ (λop hop=>by obtain ⟨e,_,rfl⟩:=mem_ofEvents hop;rfl)];exact hqj
    have h:=ih (upd q i k) (gs:=(gs.map (woken P gi g' (w.at d))).setIfInBounds i g') (w:=w.at d) (sl:=sl') (t:=t++MemOp.ofEvents i gi.frame.fn gi.frame.place es) (by rw [hsz];omega) hrd ho
     ⟨by
       rw [au h0,aG,hq.main];simp only [ay,Option.some.injEq];unfold woken;split
       ·exact again_running _ (.inl hg)
       ·rfl, λj x hj hx=>⟨_,am6 j x hj hx⟩,by rw [Deaf_other t h0 _ (λop hop=>by obtain ⟨e,_,rfl⟩:=mem_ofEvents hop;rfl)];exact hq.d0,by rw [hsz];exact zh hq.nums aa8 _ _ _,hq.dlt,
       hq.ti.NQ (λop hop=>by obtain ⟨e,he,rfl⟩:=mem_ofEvents hop;exact touch_mute (hm e he)) (λop hop a=>by obtain ⟨e,he,rfl⟩:=mem_ofEvents hop;exact Ct (hm e he) a)⟩ am6
    exact Ends.after (N:=1) (by simp only [runNT];rw [hst,hrunT]) h
theorem jK.ret (hstep:∀W1,dZ Z0 own W W1->∃v W2 es,stepG P true g W1= .ended (.done v) W2 es∧(∀e∈es,QB Z0 own e)∧Post v W2) (hg:g.status= .running) (hoff:g.offers=none):jK P Post dead own g W:=by
 classical
 refine ⟨hg,hoff, λho W1 hr gs t sl hq=>?_⟩;refine QF.ends hstep hg (_+1) (λi=>if h:∃k g',i≠0∧gs[i]?=some g'∧QuitsD P k (Deaf t i) g' then h.choose else 0) (Nat.lt_succ_self _) hr (λb hb=>⟨aK (ho b hb).1 hr.size,(ho b hb).2⟩) hq λi g' h0 hi=>?_
 obtain ⟨k,hk⟩:=hq.lv i g' h0 hi;have h:∃k g',i≠0∧gs[i]?=some g'∧QuitsD P k (Deaf t i) g':=⟨k,g',h0,hi,hk⟩
 rw [dif_pos h];obtain ⟨g1,_,h1,h2⟩:=h.choose_spec;rw [hi] at h1;cases h1;exact h2
theorem jK.start (h:jK P Post (λ_=>False) own g W) (ho:∀b,own b->b<W.heap.size):Ends P Post (solo g W) #[]:=by
 rw [solo_eq_crowd];refine h.2.2 (λb hb=>⟨ho b hb, λh=>h⟩) W (dZ.refl _) #[g] #[] none ⟨rfl, λi g' hi hg=>?_,rfl, λop hop=>by simp at hop, λ_ h=>h.elim,?_⟩
 ·have :=(aI.1 hg).1;simp at this;exact absurd this hi
 ·have no:∀{i x},touchAt #[] i=some x->False:= λ{i x} h=>by simp [touchAt,Trace.act?] at h
  exact ⟨λl g _ i x hx=>(no hx).elim, λl g _ _ i x hx=>(no hx).elim, λi x op _ hx=>(no hx).elim, λl i x _ hx=>(no hx).elim, λi x hx=>(no hx).elim, λi op hi=>by simp at hi, λsaid=>past_nil.clean said, λa i=>by simp [Trace.act?]⟩
end
end
section
structure Body (B Sb:Type) where
 gq:Option Addr
 rep:Sb->World->Prop
 J:Sb->(Nat->Prop)->World->Prop
 free:Sb->Prop
 init:Nat->Option B->Prop
 mv:Nat->B->Sb->Option B->Sb->Prop
 blk:B->Sb->Prop
 wakes:B->Bool
 kind:B->Kind
 deaf:B->Nat
 fits:Nat->B->Sb->Prop
 fin:Sb->Prop
inductive lU where
 |QX|NV|M5|NW|Gp|kd|w1 (b:Nat)|w2 (v:Nat)|Wo|w3|w4|ke|aq|fin
inductive tC where
 |wr|k1|d1|d2|d3|d4|qt
inductive FT (B:Type) where
 |st (pc:lU) (j:Nat)
 |bd (k:Nat) (b:B)
 |wg (k:Nat) (pc:tC)
structure uT (Sb:Type) where
 v:Nat
 wt:Nat
 sm:Nat
 jn:Bool
 dn:Nat->Bool
 b:Sb
structure Gq (B Sb:Type) where
 body:Body B Sb
 N:Nat
 ty:TypeId
 Wg:Nat
 syn:Nat->Prop
 ro:Nat->Prop
 pt:Nat->Prop
 cl:Nat->Nat->Nat->Prop
 Dp:(Nat->Bool)->(Nat->Prop)->(Nat->Nat->Prop)->World->Prop
 Anch:(Nat->Prop)->Goroutine->World->Prop
section
variable {B Sb:Type} (C:Gq B Sb)
def lU.deaf:lU->Nat
 | .NV| .M5| .NW| .w1 _| .w2 _| .Wo| .w3| .w4| .ke=>1
 |_=>0
def lU.kind:lU->Kind
 | .QX| .kd=>.disable
 | .NV| .w1 _| .w2 _| .w4=>.atomic
 | .M5| .Wo=>.said
 | .NW| .ke=>.enable
 | .w3=>.sem
 | .aq=>.join
 | .Gp| .fin=>.disable
def tC.deaf:tC->Nat
 | .wr| .k1=>0
 |_=>1
def tC.Bc:tC->Bool
 | .qt=>true
 |_=>false
def tC.kind:tC->Kind
 | .wr=>.done
 | .k1=>.disable
 | .d4=>.sem
 |_=>.atomic
def gF (j:Nat):lU:=if j<C.N then .QX else .kd
def Gq.Zs (j:Nat):gB:={ ro:=C.ro,sy:= λb=>C.syn b∨C.pt b,cl:= λb i=>∃k,j<=k∧k<C.N∧C.cl k b i }
def Gq.Zw (k:Nat):gB:={ ro:=C.ro,sy:= λb=>C.syn b∨C.pt b,cl:=C.cl k }
def Gq.Zp:gB:={ ro:=C.ro,sy:=C.syn,cl:= λ_ _=>False,mute:=True }
inductive EI:lU->Nat->uT Sb->lU->uT Sb->Prop
 |QX {j s}:EI .QX j s .NV s
 |NV {j s}:EI .NV j s (if s.v=0 then .M5 else .NW) { s with v:=s.v+1 }
 |M5 {j s}:EI .M5 j s .NW s
 |NW {j s}:EI .NW j s .Gp s
 |kd {j s}:EI .kd j s (.w1 j) s
 |w1 {b j s}:EI (.w1 b) j s (if s.v=0 then .ke else .w2 s.v) s
 |Y6 {j s v} (h:s.v=v):EI (.w2 v) j s .Wo { s with wt:=1 }
 |Ur {j s v} (h:s.v≠v):EI (.w2 v) j s (.w1 (v - 1)) s
 |Wo {j s}:EI .Wo j s .w3 s
 |w3 {j s}:EI .w3 j s .w4 { s with sm:=s.sm - 1 }
 |w4 {j s}:EI .w4 j s .ke s
 |ke {j s}:EI .ke j s .aq s
 |aq {j s}:EI .aq j s .fin { s with jn:=true }
def QY (f:Nat->Bool) (k:Nat):Nat->Bool:= λl=>if l=k then true else f l
inductive Ut (k:Nat):tC->uT Sb->tC->uT Sb->Prop
 |wr {s}:Ut k .wr s .k1 { s with dn:=QY s.dn k }
 |k1 {s}:Ut k .k1 s .d1 s
 |d1 {s}:Ut k .d1 s (if s.v=1∧s.wt=1 then .d2 else .qt) { s with v:=s.v - 1 }
 |d2 {s}:Ut k .d2 s .d3 s
 |d3 {s}:Ut k .d3 s .d4 { s with wt:=0 }
 |d4 {s}:Ut k .d4 s .qt { s with sm:=s.sm+1 }
inductive QZ:Nat->FT B->uT Sb->FT B->uT Sb->Prop
 |st {i pc j s pc' s'} (h:EI pc j s pc' s'):QZ i (.st pc j) s (.st pc' j) s'
 |bd {i k b s b' sb'} (h:C.body.mv k b s.b (some b') sb'):QZ i (.bd k b) s (.bd k b') { s with b:=sb' }
 |Af {i k b s sb'} (h:C.body.mv k b s.b none sb'):QZ i (.bd k b) s (.wg k .wr) { s with b:=sb' }
 |wg {i k pc s pc' s'} (h:Ut k pc s pc' s'):QZ i (.wg k pc) s (.wg k pc') s'
inductive FSp:FT B->uT Sb->FT B->FT B->uT Sb->Prop
 |bd {j s b} (h:C.body.init j (some b)):FSp (.st .Gp j) s (.st (gF C (j+1)) (j+1)) (.bd j b) s
 |wg {j s} (h:C.body.init j none):FSp (.st .Gp j) s (.st (gF C (j+1)) (j+1)) (.wg j .wr) s
def Ja:FT B->uT Sb->Prop
 | .st pc _,s=>match pc with
   | .NV=>s.v<=C.N∧s.wt=0∧s.sm=0
   | .w1 b=>s.v<=b∧s.v<=C.N∧s.wt=0∧s.sm=0
   | .w2 v=>s.v<=v∧0<v∧s.v<=C.N∧s.wt=0∧s.sm=0
   | .w3=>s.sm<=1∧s.v<=C.N∧s.wt<=1∧(s.sm=1->s.v=0∧s.wt=0)
   | .w4| .ke=>s.v=0∧s.wt=0∧s.sm=0
   | .aq=>(∀k,k<C.N->s.dn k=true)∧C.body.fin s.b∧s.jn=false
   |_=>True
 | .bd k b,s=>C.body.fits k b s.b∧s.jn=false
 | .wg _ pc,s=>match pc with
   | .wr=>s.jn=false
   | .d1=>1<=s.v∧s.v<=C.N∧s.wt<=1∧s.sm=0
   | .d2| .d3=>s.v=0∧s.wt=1∧s.sm=0
   | .d4=>s.v=0∧s.wt=0∧s.sm=0
   |_=>True
def Gq.sys:Sys (FT B) (uT Sb) where
 Ey:= λs W=>ConcR.WgAt C.ty C.Wg W ((s.v:Int)*ConcR.KK+s.wt) s.sm∧C.body.rep s.b W
 syn:=C.syn
 gq:= λs=>if s.jn then none else C.body.gq
 nW:= λs=>if s.jn then none else some (ConcR.stA C.Wg)
 mv:=QZ C
 sp:=FSp C
 blk:= λT s=>match T with
  | .st .w3 _=>s.sm=0
  | .bd _ b=>C.body.blk b s.b
  |_=>False
 wakes:= λT=>match T with
  | .bd _ b=>C.body.wakes b
  | .wg _ .d4=>true
  |_=>false
 kind:= λT=>match T with
  | .st pc _=>pc.kind
  | .bd _ b=>C.body.kind b
  | .wg _ pc=>pc.kind
 fork:= λT=>match T with
  | .st .Gp _=>true
  |_=>false
 ret:= λT=>match T with
  | .st .fin _=>true
  |_=>false
 quit:= λT=>match T with
  | .wg _ p=>p.Bc
  |_=>false
 deaf:= λT=>match T with
  | .st pc _=>pc.deaf
  | .bd _ b=>C.body.deaf b
  | .wg _ pc=>pc.deaf
 past:= λT=>match T with
  | .wg _ .wr=>false
  | .wg _ _=>true
  |_=>false
 Z:= λ_ T=>match T with
  | .st .fin _=>Z0
  | .st _ j=>C.Zs j
  | .bd k _=>C.Zw k
  | .wg k .wr=>C.Zw k
  | .wg _ _=>C.Zp
 J:= λs=>C.body.J s.b
 Dp:= λs D Dc W=>s.jn=true∨C.Dp s.dn D Dc W
 fits:= λ_ T s=>Ja C T s
 Anch:= λ_=>C.Anch
structure nI {B Sb ρ:Type} (b:Body B Sb) (N:Nat) (syn:Nat->Prop) (inv:Nat->(Nat->Option B)->Sb->Prop) (rb:(Nat->Option B)->Sb->ρ) (lt:ρ->ρ->Prop):Prop where
 wf:WellFounded lt
 spawn:∀{j ψ s o},inv j ψ s->j<N->ψ j=none->b.init j o->inv (j+1) (upd ψ j o) s
 move:∀{j ψ s k x o s'},inv j ψ s->k<j->ψ k=some x->¬b.blk x s->b.mv k x s o s'->inv j (upd ψ k o) s'∧(∀y,o=some y->lt (rb (upd ψ k o) s') (rb ψ s))
 fits:∀{j ψ s k x},inv j ψ s->k<j->ψ k=some x->b.fits k x s
 stay:∀{j ψ s k x o s'},inv j ψ s->k<j->ψ k=some x->¬b.blk x s->b.wakes x=false->b.mv k x s o s'->∀l y,l<j->l≠k->ψ l=some y->b.blk y s->b.blk y s'
 kinds:∀x,b.kind x≠ .said∧b.kind x≠ .done∧b.kind x≠ .join
 jG:∀{j ψ s k x o s'},inv j ψ s->k<j->ψ k=some x->b.mv k x s o s'->Kind.jG (b.deaf x) (b.kind x)=match o with |some y=>b.deaf y|none=>0
 plain:∀{j ψ s k x o s'},inv j ψ s->k<j->ψ k=some x->b.mv k x s o s'->(b.kind x).plain=true->(b.free s'↔b.free s)∧∀G w,b.J s G w->b.J s' G w
 uO:∀{j ψ s k x o s'},inv j ψ s->k<j->ψ k=some x->b.mv k x s o s'->b.kind x= .uO->b.free s∧¬b.free s'∧b.deaf x=0∧o≠none
 uP:∀{j ψ s k x o s'},inv j ψ s->k<j->ψ k=some x->b.mv k x s o s'->b.kind x= .uP->¬b.free s∧b.deaf x=0∧o≠none
 alive:∀{j ψ s},inv j ψ s->(∃k x,k<j∧ψ k=some x)->∃k x,k<j∧ψ k=some x∧¬b.blk x s
 finish:∀{ψ s},inv N ψ s->(∀k,k<N->ψ k=none)->b.free s∧b.fin s
 I4:∀s w d,b.rep s w->b.rep s (w.at d)
 zH:∀s w w',b.rep s w->(∀b,syn b->yE w.heap[b]? w'.heap[b]?∧∀k,w'.cell? ⟨b,k,none⟩=w.cell? ⟨b,k,none⟩)->b.rep s w'
 zf:∀s G w w',b.J s G w->(∀b,G b->w'.heap[b]?=w.heap[b]?)->b.J s G w'
 LV:∀j x,b.init j (some x)->b.deaf x=0
structure Cv:Prop where
 big:C.N<2147483647
 wg:C.syn C.Wg
 Ej:∀sb w w',C.body.rep sb w->(∀b,b≠C.Wg->w'.heap[b]?=w.heap[b]?)->C.body.rep sb w'
 cl:∀k b i,k<C.N->C.cl k b i->C.pt b
 Y7:∀k l b i,C.cl k b i->C.cl l b i->k=l
 Cq:∀dn D Dc w w',C.Dp dn D Dc w->(∀b,D b->w'.heap[b]?=w.heap[b]?)->(∀b i,Dc b i->w'.cell? ⟨b,i,none⟩=w.cell? ⟨b,i,none⟩)->C.Dp dn D Dc w'
end
end
section
theorem Be {α:Type} {f:α->Nat} {g:Nat->α} {k:Nat} {a:α}:∀{n:Nat},k<n->sm n (λi=>f (upd g k a i))+f (g k)=sm n (λi=>f (g i))+f a
 |0,h=>by omega
 |n+1,h=>by
  show sm n (λi=>f (upd g k a i))+f (upd g k a n)+f (g k)=sm n (λi=>f (g i))+f (g n)+f a
  by_cases e:k=n
  ·subst e
   have :sm k (λi=>f (upd g k a i))=sm k (λi=>f (g i)):=by
    have h1:∀j,j<k->f (upd g k a j)=f (g j):= λj hj=>by rw [upd_ne (by omega)]
    exact Nat.le_antisymm (I7 λj hj=>by rw [h1 j hj];exact aJ _) (I7 λj hj=>by rw [h1 j hj];exact aJ _)
   rw [this,upd_same];omega
  ·have :=Be (f:=f) (g:=g) (k:=k) (a:=a) (n:=n) (by omega);rw [upd_ne (Ne.symm e)];omega
theorem zk {f:Nat->Nat} {k:Nat}:∀{n:Nat},k<n->f k<=sm n f
 |0,h=>by omega
 |n+1,h=>by
  show f k<=sm n f+f n
  by_cases e:k=n
  ·subst e;omega
  ·have :=zk (f:=f) (k:=k) (n:=n) (by omega);omega
theorem J6 {f:Nat->Nat} {n:Nat} (h:sm n f=0):∀k,k<n->f k=0:= λk hk=>by
 have :=zk (f:=f) hk;omega
theorem Y8 {f:Nat->Nat}:∀{n:Nat},0<sm n f->∃k,k<n∧0<f k
 |0,h=>by simp [sm] at h
 |n+1,h=>by
  have h:0<sm n f+f n:=h
  by_cases e:0<f n
  ·exact ⟨n,by omega,e⟩
  ·obtain ⟨k,h1,h2⟩:=Y8 (f:=f) (n:=n) (by omega);exact ⟨k,by omega,h2⟩
section
variable {B Sb:Type} (C:Gq B Sb)
def pre:Option (FT B)->Nat
 |some (.bd _ _)=>1
 |some (.wg _ .wr)=>1
 |some (.wg _ .k1)=>1
 |some (.wg _ .d1)=>1
 |_=>0
def Ah:Option (FT B)->Nat
 |some (.wg _ .d2)=>1
 |some (.wg _ .d3)=>1
 |_=>0
def x4:Option (FT B)->Nat
 |some (.wg _ .d4)=>1
 |_=>0
def jU:Option (FT B)->Option B
 |some (.bd _ b)=>some b
 |_=>none
def LX:Option (FT B)->Bool
 |some (.bd _ _)=>false
 |some (.wg _ .wr)=>false
 |_=>true
def lU.pend:lU->Nat
 | .M5| .NW| .Gp=>1
 |_=>0
def lU.starts:lU->Bool
 | .QX| .NV| .M5| .NW| .Gp=>true
 |_=>false
def lU.ends:lU->Bool
 | .w4| .ke| .aq| .fin=>true
 |_=>false
def lU.waits:lU->Bool
 | .Wo| .w3=>true
 |_=>false
structure FI (inv:Nat->(Nat->Option B)->Sb->Prop) (n:Nat) (φ:Nat->Option (FT B)) (s:uT Sb) (pc:lU) (j:Nat) (idx:Nat->Nat) (ws:Nat->Option (FT B)):Prop where
 h0:φ 0=some (.st pc j)
 n0:0<n
 ij:∀k,k<j->0<idx k∧idx k<n
 inj:∀k l,k<j->l<j->idx k=idx l->k=l
 at':∀k,k<j->φ (idx k)=ws k
 who:∀k T,k<j->ws k=some T->(∃b,T= .bd k b)∨∃p,T= .wg k p∧p≠ .qt
 out:∀i,i≠0->(∀k,k<j->idx k≠i)->φ i=none
 cnt:s.v=sm j (λk=>pre (ws k))+pc.pend
 Ai:pc.waits=false->sm j (λk=>Ah (ws k))=0∧sm j (λk=>x4 (ws k))=0∧s.wt=0∧s.sm=0
 LY:pc.waits=true->(0<s.v∧s.wt=1∧s.sm=0∧sm j (λk=>Ah (ws k))=0∧sm j (λk=>x4 (ws k))=0)∨(s.v=0∧s.wt=1∧s.sm=0∧sm j (λk=>Ah (ws k))=1∧sm j (λk=>x4 (ws k))=0)∨
  (s.v=0∧s.wt=0∧s.sm=0∧sm j (λk=>Ah (ws k))=0∧sm j (λk=>x4 (ws k))=1)∨(s.v=0∧s.wt=0∧s.sm=1∧sm j (λk=>Ah (ws k))=0∧sm j (λk=>x4 (ws k))=0)
 Y9:pc.ends=true->s.v=0
 Xm:∀v,pc= .w2 v->0<v∧s.v<=v
 shB:∀v,pc= .w1 v->s.v<=v
 jS:pc.starts=true->j<C.N
 jW:pc.starts=false->j=C.N
 jN:j<=C.N
 dn:∀k,k<j->s.dn k=LX (ws k)
 dnN:∀k,j<=k->s.dn k=false
 jn:s.jn=true↔pc= .fin
 body:inv j (λk=>if k<j then jU (ws k) else none) s.b
def LZ (inv:Nat->(Nat->Option B)->Sb->Prop) (n:Nat) (φ:Nat->Option (FT B)) (s:uT Sb):Prop:=∃pc j idx ws,FI C inv n φ s pc j idx ws
def lU.rank (N _v j:Nat):lU->Nat
 | .QX=>6*(N - j)+2*N+20
 | .NV=>6*(N - j)+2*N+19
 | .M5=>6*(N - j)+2*N+18
 | .NW=>6*(N - j)+2*N+17
 | .Gp=>6*(N - j)+2*N+16
 | .kd=>2*N+15
 | .w1 b=>2*b+9
 | .w2 u=>2*u+8
 | .Wo=>6
 | .w3=>5
 | .w4=>4
 | .ke=>3
 | .aq=>2
 | .fin=>1
def uU:Option (FT B)->Nat
 |some (.bd _ _)=>7
 |some (.wg _ .wr)=>6
 |some (.wg _ .k1)=>5
 |some (.wg _ .d1)=>4
 |some (.wg _ .d2)=>3
 |some (.wg _ .d3)=>2
 |some (.wg _ .d4)=>1
 |_=>0
variable {C} {inv:Nat->(Nat->Option B)->Sb->Prop} {n:Nat} {φ:Nat->Option (FT B)} {s:uT Sb} {pc:lU} {j:Nat} {idx:Nat->Nat} {ws:Nat->Option (FT B)}
theorem FI.worker (h:FI C inv n φ s pc j idx ws) {i:Nat} {T:FT B} (hi:i≠0) (hφ:φ i=some T):∃k,k<j∧idx k=i∧ws k=some T:=by
 by_cases hk:∃k,k<j∧idx k=i
 ·obtain ⟨k,h1,h2⟩:=hk;exact ⟨k,h1,h2,by rw [<-h.at' k h1,h2];exact hφ⟩
 ·exfalso;have :=h.out i hi λk h1 h2=>hk ⟨k,h1,h2⟩
  rw [this] at hφ;cases hφ
theorem FI.Dz (h:FI C inv n φ s pc j idx ws) {i:Nat} {p:lU} {l:Nat} (hφ:φ i=some (.st p l)):i=0∧p=pc∧l=j:=by
 by_cases hi:i=0
 ·subst hi;rw [h.h0] at hφ;cases hφ;exact ⟨rfl,rfl,rfl⟩
 ·obtain ⟨k,h1,_,h3⟩:=h.worker hi hφ;rcases h.who k _ h1 h3 with ⟨b,e⟩|⟨q,e,_⟩<;>cases e
theorem FI.lZ (h:FI C inv n φ s pc j idx ws) {i k:Nat} {b:B} (hφ:φ i=some (.bd k b)):i≠0∧k<j∧idx k=i∧ws k=some (.bd k b):=by
 by_cases hi:i=0
 ·subst hi;rw [h.h0] at hφ;cases hφ
 ·obtain ⟨l,h1,h2,h3⟩:=h.worker hi hφ;rcases h.who l _ h1 h3 with ⟨b',e⟩|⟨q,e,_⟩
  ·cases e;exact ⟨hi,h1,h2,h3⟩
  ·cases e
theorem FI.Q0 (h:FI C inv n φ s pc j idx ws) {i k:Nat} {p:tC} (hφ:φ i=some (.wg k p)):i≠0∧k<j∧idx k=i∧ws k=some (.wg k p)∧p≠ .qt:=by
 by_cases hi:i=0
 ·subst hi;rw [h.h0] at hφ;cases hφ
 ·obtain ⟨l,h1,h2,h3⟩:=h.worker hi hφ;rcases h.who l _ h1 h3 with ⟨b',e⟩|⟨q,e,hq⟩
  ·cases e
  ·cases e;exact ⟨hi,h1,h2,h3,hq⟩
theorem FI.st (h:FI C inv n φ s pc j idx ws) {pc':lU} {s':uT Sb} (hb:s'.b=s.b) (hd:s'.dn=s.dn) (cnt:s'.v=sm j (λk=>pre (ws k))+pc'.pend)
 (Ai:pc'.waits=false->sm j (λk=>Ah (ws k))=0∧sm j (λk=>x4 (ws k))=0∧s'.wt=0∧s'.sm=0)
 (LY:pc'.waits=true->(0<s'.v∧s'.wt=1∧s'.sm=0∧sm j (λk=>Ah (ws k))=0∧sm j (λk=>x4 (ws k))=0)∨(s'.v=0∧s'.wt=1∧s'.sm=0∧sm j (λk=>Ah (ws k))=1∧sm j (λk=>x4 (ws k))=0)∨
   (s'.v=0∧s'.wt=0∧s'.sm=0∧sm j (λk=>Ah (ws k))=0∧sm j (λk=>x4 (ws k))=1)∨(s'.v=0∧s'.wt=0∧s'.sm=1∧sm j (λk=>Ah (ws k))=0∧sm j (λk=>x4 (ws k))=0))
 (Y9:pc'.ends=true->s'.v=0) (Xm:∀v,pc'= .w2 v->0<v∧s'.v<=v) (shB:∀v,pc'= .w1 v->s'.v<=v) (hst:pc'.starts=pc.starts) (jn:s'.jn=true↔pc'= .fin):FI C inv n (upd φ 0 (some (.st pc' j))) s' pc' j idx ws:=
 ⟨upd_same ..,h.n0,h.ij,h.inj, λk hk=>by rw [upd_ne (by have :=(h.ij k hk).1;omega)];exact h.at' k hk,h.who, λi hi hk=>by rw [upd_ne hi];exact h.out i hi hk,cnt,Ai,LY,Y9,Xm,shB, λe=>h.jS (hst ▸ e), λe=>h.jW (hst ▸ e),h.jN, λk hk=>by rw [hd];exact h.dn k hk, λk hk=>by rw [hd];exact h.dnN k hk,jn,by rw [hb];exact h.body⟩
theorem FI.zl (h:FI C inv n φ s pc j idx ws) (he:pc.ends=true) {k:Nat} (hk:k<j):ws k=none:=by
 have h0:=h.Y9 he;have hc:=h.cnt;have hw:pc.waits=false:=by cases pc<;>simp_all [lU.ends,lU.waits]
 obtain ⟨b1,b2,_,_⟩:=h.Ai hw;have z1:=J6 (f:= λk=>pre (ws k)) (n:=j) (by omega) k hk;have z2:=J6 b1 k hk;have z3:=J6 b2 k hk;cases hT:ws k with
 |none=>rfl
 |some T=>
  exfalso;simp only [hT] at z1 z2 z3;rcases h.who k T hk hT with ⟨b,rfl⟩|⟨p,rfl,hp⟩
  ·cases z1
  ·cases p<;>simp [pre,Ah,x4] at z1 z2 z3;exact hp rfl
theorem FI.Pk (h:FI C inv n φ s pc j idx ws) {k:Nat} (hk:k<j) {T:FT B} (hT:ws k=some T):pc.ends=false:=by
 cases he:pc.ends with
 |false=>rfl
 |true=>rw [h.zl he hk] at hT;cases hT
theorem FI.wk (h:FI C inv n φ s pc j idx ws) (hne:pc.ends=false) {k:Nat} (hk:k<j) {o:Option (FT B)} {s':uT Sb} (ho:∀T,o=some T->(∃b,T= .bd k b)∨∃p,T= .wg k p∧p≠ .qt) (cnt:s'.v+pre (ws k)=s.v+pre o) (hv:s'.v<=s.v)
 (Ai:pc.waits=false->Ah o=Ah (ws k)∧x4 o=x4 (ws k)∧s'.wt=0∧s'.sm=0)
 (LY:pc.waits=true->∀a b:Nat,a+Ah (ws k)=sm j (λk=>Ah (ws k))+Ah o->b+x4 (ws k)=sm j (λk=>x4 (ws k))+x4 o->
   (0<s'.v∧s'.wt=1∧s'.sm=0∧a=0∧b=0)∨(s'.v=0∧s'.wt=1∧s'.sm=0∧a=1∧b=0)∨(s'.v=0∧s'.wt=0∧s'.sm=0∧a=0∧b=1)∨(s'.v=0∧s'.wt=0∧s'.sm=1∧a=0∧b=0))
 (dnk:s'.dn k=LX o) (dno:∀l,l≠k->s'.dn l=s.dn l) (hj:s'.jn=s.jn) (hb:inv j (upd (λk=>if k<j then jU (ws k) else none) k (jU o)) s'.b):FI C inv n (upd φ (idx k) o) s' pc j idx (upd ws k o):=by
 have e1:=Be (f:=pre) (g:=ws) (k:=k) (a:=o) hk;have e2:=Be (f:=Ah) (g:=ws) (k:=k) (a:=o) hk;have e3:=Be (f:=x4) (g:=ws) (k:=k) (a:=o) hk;refine ⟨by rw [upd_ne (by have :=(h.ij k hk).1;omega)];exact h.h0,h.n0,h.ij,h.inj, λl hl=>?_, λl T hl hT=>?_, λi hi hn=>?_,?_, λhp=>?_, λhp=>?_, λhp=>?_, λv e=>⟨(h.Xm v e).1,aT hv (h.Xm v e).2⟩, λv e=>aT hv (h.shB v e),h.jS,h.jW,h.jN, λl hl=>?_, λl hl=>by rw [dno l (by omega)];exact h.dnN l hl,by rw [hj];exact h.jn,?_⟩
 ·by_cases e:l=k
  ·subst e;rw [upd_same,upd_same]
  ·rw [upd_ne e,upd_ne λe'=>e (h.inj l k hl hk e')];exact h.at' l hl
 ·by_cases e:l=k
  ·subst e;rw [upd_same] at hT;exact ho T hT
  ·rw [upd_ne e] at hT;exact h.who l T hl hT
 ·rw [upd_ne λe=>hn k hk e.symm];exact h.out i hi hn
 ·have :=h.cnt;omega
 ·obtain ⟨a1,a2,a3,a4⟩:=Ai hp;obtain ⟨b1,b2,_,_⟩:=h.Ai hp;exact ⟨by omega,by omega,a3,a4⟩
 ·exact LY hp _ _ e2 e3
 ·rw [hne] at hp;cases hp
 ·by_cases e:l=k
  ·subst e;rw [upd_same];exact dnk
  ·rw [upd_ne e,dno l e];exact h.dn l hl
 ·have :(λl=>if l<j then jU (upd ws k o l) else none)=upd (λk=>if k<j then jU (ws k) else none) k (jU o):=by
   funext l
   by_cases e:l=k
   ·subst e;rw [upd_same,upd_same,aj hk]
   ·rw [upd_ne e,upd_ne e]
  rw [this];exact hb
end
end
section
section
variable {B Sb ρ:Type} {C:Gq B Sb} {inv:Nat->(Nat->Option B)->Sb->Prop} {rb:(Nat->Option B)->Sb->ρ} {lt:ρ->ρ->Prop} {n:Nat} {φ:Nat->Option (FT B)} {s:uT Sb} {pc:lU} {j:Nat} {idx:Nat->Nat} {ws:Nat->Option (FT B)}
open Classical in
noncomputable def psi (φ:Nat->Option (FT B)) (k:Nat):Option B:=if h:∃b i,φ i=some (.bd k b) then some h.choose else none
theorem FI.psi (h:FI C inv n φ s pc j idx ws):psi φ= λk=>if k<j then jU (ws k) else none:=by
 funext k;unfold Par.psi
 by_cases hx:∃b i,φ i=some (FT.bd k b)
 ·rw [dif_pos hx];obtain ⟨i,hi⟩:=hx.choose_spec;obtain ⟨_,h1,_,h3⟩:=h.lZ hi;rw [aj h1,h3];rfl
 ·rw [dif_neg hx]
  by_cases hk:k<j
  ·rw [aj hk];cases hT:ws k with
   |none=>rfl
   |some T=>
    rcases h.who k T hk hT with ⟨b,rfl⟩|⟨p,rfl,_⟩
    ·exact absurd ⟨b,idx k,by rw [h.at' k hk,hT]⟩ hx
    ·rfl
  ·rw [aa hk]
abbrev Fr (ρ:Type):=Nat×Nat×ρ
def aa9 (N:Nat) (s:uT Sb):Option (FT B)->Nat
 |some (.st pc j)=>pc.rank N s.v j
 |_=>0
noncomputable def Uu (C:Gq B Sb) (rb:(Nat->Option B)->Sb->ρ) (n:Nat) (φ:Nat->Option (FT B)) (s:uT Sb):Fr ρ:=(aa9 C.N s (φ 0),sm n (λi=>uU (φ i)),rb (Par.psi φ) s.b)
def Ht (lt:ρ->ρ->Prop):Fr ρ->Fr ρ->Prop:=Prod.Lex Nat.lt (Prod.Lex Nat.lt lt)
theorem Ht.wf (h:WellFounded lt):WellFounded (Ht lt):=(Prod.lex Nat.lt_wfRel (Prod.lex Nat.lt_wfRel ⟨_,h⟩)).wf
theorem Uv {a b:Nat} {x y:Nat×ρ} (h:a<b):Ht lt (a,x) (b,y):=.left _ _ h
theorem Za {a b c d:Nat} {x y:ρ} (h:a<=b) (h2:c<d):Ht lt (a,c,x) (b,d,y):=by
 rcases Nat.lt_or_eq_of_le h with h|rfl
 ·exact .left _ _ h
 ·exact .right _ (.left _ _ h2)
theorem am7 {a c:Nat} {x y:ρ} (h:lt x y):Ht lt (a,c,x) (a,c,y):=.right _ (.right _ h)
theorem Q5 {pc:lU} {N v v' j:Nat} (h:v'<=v):pc.rank N v' j<=pc.rank N v j:=by
 cases pc<;>simp [lU.rank]
theorem FI.mX (h:FI C inv n φ s pc j idx ws) (hp:pc≠ .fin):s.jn=false:=by
 cases e:s.jn with
 |false=>rfl
 |true=>exact absurd (h.jn.1 e) hp
theorem uV {s:uT Sb} {pc:lU} (h:s.jn=false) (hp:pc≠ .fin):s.jn=true↔pc= .fin:=⟨λe=>absurd (h.symm.trans e) (by simp), λe=>absurd e hp⟩
theorem Xn (h:FI C inv n φ s pc j idx ws) {pc':lU} {s':uT Sb} (zT:pc= .w3->s.sm≠0) (hm:EI pc j s pc' s'):FI C inv n (upd φ 0 (some (.st pc' j))) s' pc' j idx ws∧pc'.rank C.N s'.v j<pc.rank C.N s.v j:=by
 have hc:=h.cnt;have hN:=h.jN;cases hm with
 |QX=>
  have hj:=h.mX (by simp);obtain ⟨a1,a2,a3,a4⟩:=h.Ai rfl;exact ⟨h.st rfl rfl (by simpa [lU.pend] using hc) (λ_=>⟨a1,a2,a3,a4⟩) (λe=>by cases e) (λe=>by cases e) (λv e=>by cases e) (λv e=>by cases e) rfl (uV hj (by simp)),by simp [lU.rank]⟩
 |NV=>
  have hj:=h.mX (by simp);obtain ⟨a1,a2,a3,a4⟩:=h.Ai rfl;split
  ·exact ⟨h.st rfl rfl (by simp [lU.pend] at hc ⊢;omega) (λ_=>⟨a1,a2,a3,a4⟩) (λe=>by cases e) (λe=>by cases e) (λv e=>by cases e) (λv e=>by cases e) rfl (uV hj (by simp)),by simp [lU.rank]⟩
  ·exact ⟨h.st rfl rfl (by simp [lU.pend] at hc ⊢;omega) (λ_=>⟨a1,a2,a3,a4⟩) (λe=>by cases e) (λe=>by cases e) (λv e=>by cases e) (λv e=>by cases e) rfl (uV hj (by simp)),by simp [lU.rank]⟩
 |M5=>
  have hj:=h.mX (by simp);obtain ⟨a1,a2,a3,a4⟩:=h.Ai rfl;exact ⟨h.st rfl rfl (by simpa [lU.pend] using hc) (λ_=>⟨a1,a2,a3,a4⟩) (λe=>by cases e) (λe=>by cases e) (λv e=>by cases e) (λv e=>by cases e) rfl (uV hj (by simp)),by simp [lU.rank]⟩
 |NW=>
  have hj:=h.mX (by simp);obtain ⟨a1,a2,a3,a4⟩:=h.Ai rfl;exact ⟨h.st rfl rfl (by simpa [lU.pend] using hc) (λ_=>⟨a1,a2,a3,a4⟩) (λe=>by cases e) (λe=>by cases e) (λv e=>by cases e) (λv e=>by cases e) rfl (uV hj (by simp)),by simp [lU.rank]⟩
 |kd=>
  have hj:=h.mX (by simp);obtain ⟨a1,a2,a3,a4⟩:=h.Ai rfl
  have :sm j (λk=>pre (ws k))<=j:=by
   have :∀(m:Nat) (f:Nat->Nat),(∀k,f k<=1)->sm m f<=m:= λm f hf=>by
    induction m with
    |zero=>exact aJ _
    |succ m ih=>
     have :=hf m;show sm m f+f m<=m+1;omega
   exact this j _ λk=>by
    cases ws k with
    |none=>simp [pre]
    |some T=>
     cases T with
     |st _ _=>simp [pre]
     |bd _ _=>simp [pre]
     |wg _ p=>cases p<;>simp [pre]
  refine ⟨h.st rfl rfl (by simpa [lU.pend] using hc) (λ_=>⟨a1,a2,a3,a4⟩) (λe=>by cases e) (λe=>by cases e) (λv e=>by cases e) (λv e=>by cases e;simp [lU.pend] at hc;omega) rfl (uV hj (by simp)),?_⟩;simp [lU.rank,lU.pend] at hc ⊢;omega
 |w1=>
  have hj:=h.mX (by simp);have hB:=h.shB _ rfl;obtain ⟨a1,a2,a3,a4⟩:=h.Ai rfl;split
  ·rename_i h0;exact ⟨h.st rfl rfl (by simpa [lU.pend] using hc) (λ_=>⟨a1,a2,a3,a4⟩) (λe=>by cases e) (λ_=>h0) (λv e=>by cases e) (λv e=>by cases e) rfl (uV hj (by simp)),by simp [lU.rank]⟩
  ·rename_i h0;exact ⟨h.st rfl rfl (by simpa [lU.pend] using hc) (λ_=>⟨a1,a2,a3,a4⟩) (λe=>by cases e) (λe=>by cases e) (λv e=>by cases e;exact ⟨by omega,aJ _⟩) (λv e=>by cases e) rfl (uV hj (by simp)),by simp [lU.rank];omega⟩
 |Y6 hv=>
  have hj:=h.mX (by simp);obtain ⟨a1,a2,a3,a4⟩:=h.Ai rfl;have h0:=(h.Xm _ rfl).1;exact ⟨h.st rfl rfl (by simpa [lU.pend] using hc) (λe=>by cases e) (λ_=>.inl ⟨by show 0<s.v;omega,rfl,a4,a1,a2⟩) (λe=>by cases e) (λv e=>by cases e) (λv e=>by cases e) rfl (uV hj (by simp)),by simp [lU.rank]⟩
 |Ur hv=>
  have hj:=h.mX (by simp);obtain ⟨a1,a2,a3,a4⟩:=h.Ai rfl;refine ⟨h.st rfl rfl (by simpa [lU.pend] using hc) (λ_=>⟨a1,a2,a3,a4⟩) (λe=>by cases e) (λe=>by cases e) (λv e=>by cases e) (λv e=>by cases e;have :=(h.Xm _ rfl).2;omega) rfl (uV hj (by simp)),?_⟩;have :=(h.Xm _ rfl).1;simp [lU.rank];omega
 |Wo=>
  have hj:=h.mX (by simp);exact ⟨h.st rfl rfl (by simpa [lU.pend] using hc) (λe=>by cases e) (λ_=>h.LY rfl) (λe=>by cases e) (λv e=>by cases e) (λv e=>by cases e) rfl (uV hj (by simp)),by simp [lU.rank]⟩
 |w3=>
  have hj:=h.mX (by simp);have hb:=zT rfl;rcases h.LY rfl with x|x|x|⟨x1,x2,x3,x4,x5⟩
  ·omega
  ·omega
  ·omega
  ·exact ⟨h.st rfl rfl (by simpa [lU.pend] using hc) (λ_=>⟨x4,x5,x2,by simp [x3]⟩) (λe=>by cases e) (λ_=>x1) (λv e=>by cases e) (λv e=>by cases e) rfl (uV hj (by simp)),by simp [lU.rank]⟩
 |w4=>
  have hj:=h.mX (by simp);obtain ⟨a1,a2,a3,a4⟩:=h.Ai rfl;exact ⟨h.st rfl rfl (by simpa [lU.pend] using hc) (λ_=>⟨a1,a2,a3,a4⟩) (λe=>by cases e) (λ_=>h.Y9 rfl) (λv e=>by cases e) (λv e=>by cases e) rfl (uV hj (by simp)),by simp [lU.rank]⟩
 |ke=>
  have hj:=h.mX (by simp);obtain ⟨a1,a2,a3,a4⟩:=h.Ai rfl;exact ⟨h.st rfl rfl (by simpa [lU.pend] using hc) (λ_=>⟨a1,a2,a3,a4⟩) (λe=>by cases e) (λ_=>h.Y9 rfl) (λv e=>by cases e) (λv e=>by cases e) rfl (uV hj (by simp)),by simp [lU.rank]⟩
 |aq=>
  have hj:=h.mX (by simp);obtain ⟨a1,a2,a3,a4⟩:=h.Ai rfl;exact ⟨h.st rfl rfl (by simpa [lU.pend] using hc) (λ_=>⟨a1,a2,a3,a4⟩) (λe=>by cases e) (λ_=>h.Y9 rfl) (λv e=>by cases e) (λv e=>by cases e) rfl ⟨λ_=>rfl, λ_=>rfl⟩,by simp [lU.rank]⟩
end
end
section
section
variable {B Sb ρ:Type} {C:Gq B Sb} {inv:Nat->(Nat->Option B)->Sb->Prop} {rb:(Nat->Option B)->Sb->ρ} {lt:ρ->ρ->Prop} {n:Nat} {φ:Nat->Option (FT B)} {s:uT Sb} {pc:lU} {j:Nat} {idx:Nat->Nat} {ws:Nat->Option (FT B)}
def tC.n23:tC->Nat
 | .d2| .d3=>1
 |_=>0
def tC.n4:tC->Nat
 | .d4=>1
 |_=>0
def tC.Xo:tC->Nat
 | .wr| .k1| .d1=>1
 |_=>0
theorem xU (k:Nat) (p:tC):Ah (some (.wg k p):Option (FT B))=p.n23:=by cases p<;>rfl
theorem Cw (k:Nat) (p:tC):x4 (some (.wg k p):Option (FT B))=p.n4:=by cases p<;>rfl
theorem J7 (k:Nat) (p:tC):pre (some (.wg k p):Option (FT B))=p.Xo:=by cases p<;>rfl
theorem uW:Ah (none:Option (FT B))=0:=rfl
theorem xV:x4 (none:Option (FT B))=0:=rfl
theorem pre_none:pre (none:Option (FT B))=0:=rfl
theorem FI.Gs (h:FI C inv n φ s pc j idx ws) {k:Nat} (hk:k<j) {o:Option (FT B)} (e1:jU (ws k)=none) (e2:jU o=none):inv j (upd (λk=>if k<j then jU (ws k) else none) k (jU o)) s.b:=by
 have :upd (λk=>if k<j then jU (ws k) else none) k (jU o)= λk=>if k<j then jU (ws k) else none:=by
  funext l
  by_cases e:l=k
  ·subst e;rw [upd_same,aj hk,e1,e2]
  ·rw [upd_ne e]
 rw [this];exact h.body
theorem Xp (h:FI C inv n φ s pc j idx ws) {k:Nat} (hk:k<j) {p p':tC} (hw:ws k=some (.wg k p)) {s':uT Sb} (hm:Ut k p s p' s'):
 (∃o,o=(if p'.Bc then none else some (FT.wg k p'))∧FI C inv n (upd φ (idx k) o) s' pc j idx (upd ws k o)∧uU o<uU (ws k))∧s'.v<=s.v:=by
 have hne:=h.Pk hk hw;have hc:=h.cnt;have p1:=zk (f:= λk=>pre (ws k)) hk;have p2:=zk (f:= λk=>Ah (ws k)) hk;have p3:=zk (f:= λk=>x4 (ws k)) hk;simp only [hw,J7,xU,Cw] at p1 p2 p3;have QV:=h.dn k hk;rw [hw] at QV;cases hm with
 |wr=>
  refine ⟨⟨some (.wg k .k1),by simp [tC.Bc],h.wk hne hk (λT e=>by cases e;exact .inr ⟨_,rfl,by simp⟩) (by rw [hw];rfl) (aJ _) (λe=>?_) (λe a b ea eb=>?_) ?_ (λl hl=>?_) rfl (h.Gs hk (by rw [hw];rfl) rfl),by rw [hw];simp [uU]⟩,aJ _⟩
  ·obtain ⟨_,_,a3,a4⟩:=h.Ai e;rw [hw];exact ⟨rfl,rfl,a3,a4⟩
  ·rw [hw] at ea eb;simp only [xU,Cw,uW,xV,tC.n23,tC.n4,aH] at ea eb;rw [ea,eb];exact h.LY e
  ·simp [QY,LX]
  ·simp [QY,hl]
 |k1=>
  refine ⟨⟨some (.wg k .d1),by simp [tC.Bc],h.wk hne hk (λT e=>by cases e;exact .inr ⟨_,rfl,by simp⟩) (by rw [hw];rfl) (aJ _) (λe=>?_) (λe a b ea eb=>?_) QV (λl hl=>rfl) rfl (h.Gs hk (by rw [hw];rfl) rfl),by rw [hw];simp [uU]⟩,aJ _⟩
  ·obtain ⟨_,_,a3,a4⟩:=h.Ai e;rw [hw];exact ⟨rfl,rfl,a3,a4⟩
  ·rw [hw] at ea eb;simp only [xU,Cw,uW,xV,tC.n23,tC.n4,aH] at ea eb;rw [ea,eb];exact h.LY e
 |d1=>
  have p1:1<=sm j (λk=>pre (ws k)):=p1
  by_cases hx:s.v=1∧s.wt=1
  ·rw [aj hx];refine ⟨⟨some (.wg k .d2),by simp [tC.Bc],h.wk hne hk (λT e=>by cases e;exact .inr ⟨_,rfl,by simp⟩) (by rw [hw];simp only [J7,pre_none,tC.Xo];omega) (by simp) (λe=>?_) (λe a b ea eb=>?_) QV (λl hl=>rfl) rfl (h.Gs hk (by rw [hw];rfl) rfl),by rw [hw];simp [uU]⟩,by simp⟩
   ·obtain ⟨_,_,a3,a4⟩:=h.Ai e;omega
   ·rw [hw] at ea eb;simp only [xU,Cw,uW,xV,tC.n23,tC.n4,aH] at ea eb
    refine .inr (.inl ?_);rcases h.LY e with x|x|x|x
    ·exact ⟨by show s.v - 1=0;omega,x.2.1,x.2.2.1,by omega,by omega⟩
    all_goals omega
  ·rw [aa hx];refine ⟨⟨none,by simp [tC.Bc],h.wk hne hk (λT e=>by cases e) (by rw [hw];simp only [J7,pre_none,tC.Xo];omega) (by simp) (λe=>?_) (λe a b ea eb=>?_) QV (λl hl=>rfl) rfl (h.Gs hk (by rw [hw];rfl) rfl),by rw [hw];simp [uU]⟩,by simp⟩
   ·obtain ⟨_,_,a3,a4⟩:=h.Ai e;rw [hw];exact ⟨rfl,rfl,a3,a4⟩
   ·rw [hw] at ea eb;simp only [xU,Cw,uW,xV,tC.n23,tC.n4,aH] at ea eb
    refine .inl ?_
    rcases h.LY e with x|x|x|x
    ·exact ⟨by show 0<s.v - 1;omega,x.2.1,x.2.2.1,by omega,by omega⟩
    all_goals omega
 |d2=>
  refine ⟨⟨some (.wg k .d3),by simp [tC.Bc],h.wk hne hk (λT e=>by cases e;exact .inr ⟨_,rfl,by simp⟩) (by rw [hw];rfl) (aJ _) (λe=>?_) (λe a b ea eb=>?_) QV (λl hl=>rfl) rfl (h.Gs hk (by rw [hw];rfl) rfl),by rw [hw];simp [uU]⟩,aJ _⟩
  ·obtain ⟨_,_,a3,a4⟩:=h.Ai e;rw [hw];exact ⟨rfl,rfl,a3,a4⟩
  ·rw [hw] at ea eb;simp only [xU,Cw,uW,xV,tC.n23,tC.n4,aH] at ea eb;rw [Nat.add_right_cancel ea,eb];exact h.LY e
 |d3=>
  have p2:1<=sm j (λk=>Ah (ws k)):=p2;refine ⟨⟨some (.wg k .d4),by simp [tC.Bc],h.wk hne hk (λT e=>by cases e;exact .inr ⟨_,rfl,by simp⟩) (by rw [hw];rfl) (aJ _) (λe=>?_) (λe a b ea eb=>?_) QV (λl hl=>rfl) rfl (h.Gs hk (by rw [hw];rfl) rfl),by rw [hw];simp [uU]⟩,aJ _⟩
  ·obtain ⟨a1,_,a3,a4⟩:=h.Ai e;omega
  ·rw [hw] at ea eb;simp only [xU,Cw,uW,xV,tC.n23,tC.n4,aH] at ea eb
   refine .inr (.inr (.inl ?_));rcases h.LY e with x|x|x|x
   ·omega
   ·exact ⟨x.1,rfl,x.2.2.1,by omega,by omega⟩
   all_goals omega
 |d4=>
  have p3:1<=sm j (λk=>x4 (ws k)):=p3;refine ⟨⟨none,by simp [tC.Bc],h.wk hne hk (λT e=>by cases e) (by rw [hw];rfl) (aJ _) (λe=>?_) (λe a b ea eb=>?_) QV (λl hl=>rfl) rfl (h.Gs hk (by rw [hw];rfl) rfl),by rw [hw];simp [uU]⟩,aJ _⟩
  ·obtain ⟨_,a2,a3,a4⟩:=h.Ai e;omega
  ·rw [hw] at ea eb;simp only [xU,Cw,uW,xV,tC.n23,tC.n4,aH] at ea eb
   refine .inr (.inr (.inr ?_));rcases h.LY e with x|x|x|x
   ·omega
   ·omega
   ·exact ⟨x.1,x.2.1,by show s.sm+1=1;omega,by omega,by omega⟩
   ·omega
theorem Pm {N:Nat} {syn:Nat->Prop} (ok:nI C.body N syn inv rb lt) (h:FI C inv n φ s pc j idx ws) {k:Nat} (hk:k<j) {b:B} (hw:ws k=some (.bd k b)) (zT:¬C.body.blk b s.b) {o:Option B} {sb':Sb} (hm:C.body.mv k b s.b o sb')
 {T:FT B} (hT:T=match o with |some b'=>.bd k b'|none=>.wg k .wr):FI C inv n (upd φ (idx k) (some T)) { s with b:=sb' } pc j idx (upd ws k (some T))∧(∀b',o=some b'->lt (rb (upd (λk=>if k<j then jU (ws k) else none) k o) sb') (rb (λk=>if k<j then jU (ws k) else none) s.b)):=by
 have hne:=h.Pk hk hw
 have Hw:(λk=>if k<j then jU (ws k) else none) k=some b:=by
  show (if k<j then jU (ws k) else none)=some b;rw [aj hk,hw];rfl
 obtain ⟨h1,h2⟩:=ok.move h.body hk Hw zT hm;have QV:=h.dn k hk;rw [hw] at QV;have hbp:jU (some T)=o:=by cases o<;>(subst hT;rfl)
 have hpre:pre (some T)=1:=by cases o<;>(subst hT;rfl)
 have hx:Ah (some T)=0:=by cases o<;>(subst hT;rfl)
 have hx':x4 (some T)=0:=by cases o<;>(subst hT;rfl)
 have hs:LX (some T)=false:=by cases o<;>(subst hT;rfl)
 refine ⟨h.wk hne hk (λT' e=>?_) (by rw [hw,hpre];rfl) (aJ _) (λe=>?_) (λe a c ea eb=>?_) (by rw [hs];exact QV) (λl hl=>rfl) rfl (by rw [hbp];exact h1),h2⟩
 ·cases e;cases o
  ·exact .inr ⟨.wr,hT,by simp⟩
  ·exact .inl ⟨_,hT⟩
 ·obtain ⟨_,_,a3,a4⟩:=h.Ai e;rw [hw,hx,hx'];exact ⟨rfl,rfl,a3,a4⟩
 ·rw [hw,hx] at ea;rw [hw,hx'] at eb;simp only [show Ah (some (FT.bd k b))=0 from rfl,show x4 (some (FT.bd k b))=0 from rfl,aH] at ea eb;rw [ea,eb];exact h.LY e
theorem Pn {N:Nat} {syn:Nat->Prop} (ok:nI C.body N syn inv rb lt) (hN:N=C.N) (h:FI C inv n φ s .Gp j idx ws) {o:Option B} (ho:C.body.init j o) {T:FT B} (hT:T=match o with |some b'=>.bd j b'|none=>.wg j .wr):
 FI C inv (n+1) (upd (upd φ 0 (some (.st (gF C (j+1)) (j+1)))) n (some T)) s (gF C (j+1)) (j+1) (upd idx j n) (upd ws j (some T)):=by
 have hjN:j<C.N:=h.jS rfl;have hn0:=h.n0;have hc:=h.cnt;obtain ⟨a1,a2,a3,a4⟩:=h.Ai rfl;have hbp:jU (some T)=o:=by cases o<;>(subst hT;rfl)
 have hpre:pre (some T)=1:=by cases o<;>(subst hT;rfl)
 have hx:Ah (some T)=0:=by cases o<;>(subst hT;rfl)
 have hx':x4 (some T)=0:=by cases o<;>(subst hT;rfl)
 have hs:LX (some T)=false:=by cases o<;>(subst hT;rfl)
 have same:∀f:Option (FT B)->Nat,sm j (λk=>f (upd ws j (some T) k))=sm j (λk=>f (ws k)):= λf=>by
  have h1:∀k,k<j->f (upd ws j (some T) k)=f (ws k):= λk hk=>by rw [upd_ne (by omega)]
  exact Nat.le_antisymm (I7 λk hk=>by rw [h1 k hk];exact aJ _) (I7 λk hk=>by rw [h1 k hk];exact aJ _)
 have plus:∀f:Option (FT B)->Nat,sm (j+1) (λk=>f (upd ws j (some T) k))=sm j (λk=>f (ws k))+f (some T):= λf=>by
  show sm j (λk=>f (upd ws j (some T) k))+f (upd ws j (some T) j)=_;rw [same,upd_same]
 have hnp:(gF C (j+1)).pend=0∧(gF C (j+1)).waits=false∧(gF C (j+1)).ends=false∧gF C (j+1)≠ .fin∧(∀v,gF C (j+1)≠ .w2 v)∧(∀v,gF C (j+1)≠ .w1 v)∧((gF C (j+1)).starts=true↔j+1<C.N):=by
  unfold gF;split
  ·rename_i h1;exact ⟨rfl,rfl,rfl,by simp,by simp,by simp,⟨λ_=>h1, λ_=>rfl⟩⟩
  ·rename_i h1;exact ⟨rfl,rfl,rfl,by simp,by simp,by simp,⟨λe=>(by cases e), λe=>absurd e h1⟩⟩
 obtain ⟨q1,q2,q3,q4,q5,q7,q6⟩:=hnp;have idl:∀k,k<j->upd idx j n k=idx k:= λk hk=>upd_ne (by omega)
 refine ⟨by rw [upd_ne (by omega),upd_same],by omega, λk hk=>?_, λk l hk hl e=>?_, λk hk=>?_, λk T' hk hT'=>?_, λi hi hk=>?_,?_, λ_=>⟨by rw [plus,hx];exact a1,by rw [plus,hx'];exact a2,a3,a4⟩,(λe=>by rw [q2] at e;cases e),(λe=>by rw [q3] at e;cases e), λv e=>absurd e (q5 v), λv e=>absurd e (q7 v), λe=>q6.1 e, λe=>?_,by omega, λk hk=>?_, λk hk=>h.dnN k (by omega),uV (h.mX (by simp)) q4,?_⟩
 ·by_cases e:k=j
  ·subst e;rw [upd_same];omega
  ·rw [idl k (by omega)];have :=h.ij k (by omega);omega
 ·by_cases ek:k=j
  ·by_cases el:l=j
   ·omega
   ·exfalso;subst ek;rw [upd_same,idl l (by omega)] at e;have :=h.ij l (by omega);omega
  ·by_cases el:l=j
   ·exfalso;subst el;rw [upd_same,idl k (by omega)] at e;have :=h.ij k (by omega);omega
   ·rw [idl k (by omega),idl l (by omega)] at e;exact h.inj k l (by omega) (by omega) e
 ·by_cases e:k=j
  ·subst e;rw [upd_same,upd_same,upd_same]
  ·have :=h.ij k (by omega);rw [idl k (by omega),upd_ne (by omega),upd_ne (by omega),upd_ne e];exact h.at' k (by omega)
 ·by_cases e:k=j
  ·subst e;rw [upd_same] at hT';cases hT';cases o
   ·exact .inr ⟨.wr,hT,by simp⟩
   ·exact .inl ⟨_,hT⟩
  ·rw [upd_ne e] at hT';exact h.who k T' (by omega) hT'
 ·have hin:i≠n:= λe=>hk j (by omega) (by rw [upd_same];exact e.symm)
  rw [upd_ne hin,upd_ne hi];exact h.out i hi λk hk' e=>hk k (by omega) (by rw [idl k hk'];exact e)
 ·rw [plus,hpre,q1,hc];simp [lU.pend]
 ·have :¬j+1<C.N:= λx=>by rw [q6.2 x] at e;cases e
  omega
 ·by_cases e:k=j
  ·subst e;rw [upd_same,hs];exact h.dnN k (aJ _)
  ·rw [upd_ne e];exact h.dn k (by omega)
 ·have e1:(λk=>if k<j+1 then jU (upd ws j (some T) k) else none)=upd (λk=>if k<j then jU (ws k) else none) j o:=by
   funext k
   by_cases e:k=j
   ·subst e;rw [upd_same,upd_same,aj (by omega),hbp]
   ·rw [upd_ne e,upd_ne e]
    by_cases hk:k<j
    ·rw [aj (by omega),aj hk]
    ·rw [aa (by omega),aa hk]
  rw [e1];exact ok.spawn h.body (by omega) (aa (by omega)) ho
end
end
section
theorem Gt {w w':World} {b:Nat} {c:Array Value} {e:TypeId} {fr:Nat×Nat} (h:w.heap[b]?=some (.cells c e fr)) (hs:yE w.heap[b]? w'.heap[b]?) (hc:∀k,w'.cell? ⟨b,k,none⟩=w.cell? ⟨b,k,none⟩):w'.heap[b]?=some (.cells c e fr):=by
 obtain ⟨c',h1,h2,_⟩:=hs c e fr h;rw [h1];congr 2;apply Array.ext_getElem?;intro i;have :=hc i;unfold World.cell? at this;rw [h,h1] at this;simpa using this
section
variable {B Sb ρ:Type} {C:Gq B Sb} {inv:Nat->(Nat->Option B)->Sb->Prop} {rb:(Nat->Option B)->Sb->ρ} {lt:ρ->ρ->Prop} {n:Nat} {φ:Nat->Option (FT B)} {s:uT Sb} {pc:lU} {j:Nat} {idx:Nat->Nat} {ws:Nat->Option (FT B)}
theorem ab0 (o:Option (FT B)):pre o<=1:=by
 cases o with
 |none=>simp [pre]
 |some T=>
  cases T with
  |st _ _=>simp [pre]
  |bd _ _=>simp [pre]
  |wg _ p=>cases p<;>simp [pre]
theorem L6 {f:Nat->Nat} (h:∀k,f k<=1):∀m,sm m f<=m
 |0=>aJ _
 |m+1=>by
  have h1:=L6 h m;have h2:=h m;show sm m f+f m<=m+1;omega
theorem FI.vle (h:FI C inv n φ s pc j idx ws):s.v<=C.N:=by
 have hc:=h.cnt;have h1:sm j (λk=>pre (ws k))<=j:=L6 (λk=>ab0 _) j;have h2:=h.jN
 by_cases hp:pc.pend=0
 ·omega
 ·have :pc.starts=true∧pc.pend=1:=by cases pc<;>simp_all [lU.pend,lU.starts]
  have :=h.jS this.1;omega
def tq (C:Gq B Sb) (s:uT Sb):Prop:=s.jn=false∧C.body.free s.b
theorem FI.fits {syn:Nat->Prop} (ok:nI C.body C.N syn inv rb lt) (h:FI C inv n φ s pc j idx ws) {i:Nat} {T:FT B} (hφ:φ i=some T):Ja C T s:=by
 cases T with
 |st p l=>
  obtain ⟨rfl,rfl,rfl⟩:=h.Dz hφ;have hv:=h.vle;cases p with
  |NV=>obtain ⟨_,_,a3,a4⟩:=h.Ai rfl;exact ⟨hv,a3,a4⟩
  |w1 b=>obtain ⟨_,_,a3,a4⟩:=h.Ai rfl;exact ⟨h.shB _ rfl,hv,a3,a4⟩
  |w2 v=>obtain ⟨_,_,a3,a4⟩:=h.Ai rfl;exact ⟨(h.Xm _ rfl).2,(h.Xm _ rfl).1,hv,a3,a4⟩
  |w3=>
   rcases h.LY rfl with x|x|x|x
   all_goals exact ⟨by omega,hv,by omega, λe=>⟨by omega,by omega⟩⟩
  |w4=>obtain ⟨_,_,a3,a4⟩:=h.Ai rfl;exact ⟨h.Y9 rfl,a3,a4⟩
  |ke=>obtain ⟨_,_,a3,a4⟩:=h.Ai rfl;exact ⟨h.Y9 rfl,a3,a4⟩
  |aq=>
   have hj:=h.jW rfl;refine ⟨λk hk=>?_,?_,h.mX (by simp)⟩
   ·rw [h.dn k (by omega),h.zl rfl (by omega)];rfl
   ·have hb:=h.body;rw [hj] at hb
    exact (ok.finish hb λk hk=>by
     show (if k<C.N then jU (ws k) else none)=none;rw [aj hk,h.zl rfl (by omega)];rfl).2
  |_=>trivial
 |bd k b=>
  obtain ⟨_,hk,_,hw⟩:=h.lZ hφ;exact ⟨ok.fits h.body hk (by show (if k<j then jU (ws k) else none)=some b;rw [aj hk,hw];rfl),h.mX λe=>by rw [h.zl (by rw [e];rfl) hk] at hw;cases hw⟩
 |wg k p=>
  obtain ⟨_,hk,_,hw,hp⟩:=h.Q0 hφ;have hc:=h.cnt;have p1:=zk (f:= λk=>pre (ws k)) hk;have p2:=zk (f:= λk=>Ah (ws k)) hk;have p3:=zk (f:= λk=>x4 (ws k)) hk;simp only [hw,J7,xU,Cw] at p1 p2 p3;have hv:=h.vle
  have both:(sm j (λk=>Ah (ws k))=0∧sm j (λk=>x4 (ws k))=0∧s.wt=0∧s.sm=0)∨((0<s.v∧s.wt=1∧s.sm=0∧sm j (λk=>Ah (ws k))=0∧sm j (λk=>x4 (ws k))=0)∨(s.v=0∧s.wt=1∧s.sm=0∧sm j (λk=>Ah (ws k))=1∧sm j (λk=>x4 (ws k))=0)∨
   (s.v=0∧s.wt=0∧s.sm=0∧sm j (λk=>Ah (ws k))=0∧sm j (λk=>x4 (ws k))=1)∨(s.v=0∧s.wt=0∧s.sm=1∧sm j (λk=>Ah (ws k))=0∧sm j (λk=>x4 (ws k))=0)):=by
   cases e:pc.waits with
   |false=>exact .inl (h.Ai e)
   |true=>exact .inr (h.LY e)
  generalize sm j (λk=>Ah (ws k))=X at both p2;generalize sm j (λk=>x4 (ws k))=Y at both p3;generalize sm j (λk=>pre (ws k))=Z at hc p1;cases p<;>simp only [tC.Xo,tC.n23,tC.n4] at p1 p2 p3
  case wr=>exact h.mX λe=>by rw [h.zl (by rw [e];rfl) hk] at hw;cases hw
  case d1=>exact ⟨by omega,hv,by omega,by omega⟩
  case d2=>exact ⟨by omega,by omega,by omega⟩
  case d3=>exact ⟨by omega,by omega,by omega⟩
  case d4=>exact ⟨by omega,by omega,by omega⟩
  all_goals trivial
theorem ab1 {a a' c c':Nat} {x y:ρ} (e1:a=a') (e2:c=c') (h:lt x y):Ht lt (a,c,x) (a',c',y):=by subst e1 e2;exact am7 h
theorem Xq (h:FI C inv n φ s pc j idx ws) {k:Nat} (hk:k<j) {s':uT Sb} {o:Option (FT B)} (h':FI C inv n (upd φ (idx k) o) s' pc j idx (upd ws k o)):Par.psi (upd φ (idx k) o)=upd (λk=>if k<j then jU (ws k) else none) k (jU o):=by
 rw [h'.psi];funext l
 by_cases e:l=k
 ·subst e;rw [upd_same,upd_same,aj hk]
 ·rw [upd_ne e,upd_ne e]
theorem ab2 {syn:Nat->Prop} (ok:nI C.body C.N syn inv rb lt) (h:LZ C inv n φ s) {i:Nat} {T T':FT B} {s':uT Sb} (hi:i<n) (hφ:φ i=some T) (zT:¬C.sys.blk T s) (hm:QZ C i T s T' s'):
 LZ C inv n (upd φ i (if C.sys.quit T' then none else some T')) s'∧Ht lt (Uu C rb n (upd φ i (if C.sys.quit T' then none else some T')) s') (Uu C rb n φ s):=by
 obtain ⟨pc,j,idx,ws,h⟩:=h;cases hm with
 | @st p l s p' s' hm=>
   obtain ⟨rfl,rfl,rfl⟩:=h.Dz hφ;obtain ⟨h',hr⟩:=Xn h (λe hs=>zT (by subst e;exact hs)) hm;refine ⟨⟨p',l,idx,ws,h'⟩,?_⟩;unfold Uu;refine Uv ?_
   have e:(upd φ 0 (if C.sys.quit (.st p' l)=true then none else some (FT.st p' l))) 0=some (FT.st p' l):=by rw [upd_same];rfl
   rw [e,h.h0];exact hr
 | @bd k b s b' sb' hm=>
   obtain ⟨h0,hk,hx,hw⟩:=h.lZ hφ;obtain ⟨h',hr⟩:=Pm ok h hk hw zT hm (T:=.bd k b') rfl;have hq:(if C.sys.quit (FT.bd k b')=true then none else some (FT.bd k b'))=some (FT.bd k b'):=rfl;rw [hq, <-hx];refine ⟨⟨pc,j,idx,_,h'⟩,?_⟩;unfold Uu;have hx0:(0:Nat)≠idx k:=by rw [hx];exact Ne.symm h0
   refine ab1 ?_ ?_ ?_
   ·rw [upd_ne hx0,h.h0];rfl
   ·have :=Be (f:=uU) (g:=φ) (k:=idx k) (a:=some (FT.bd k b')) (n:=n) (by rw [hx];exact hi);rw [hx,hφ] at this;rw [hx];exact Nat.add_right_cancel this
   ·rw [Xq h hk h',h.psi];exact hr b' rfl
 | @Af k b s sb' hm=>
   obtain ⟨h0,hk,hx,hw⟩:=h.lZ hφ;obtain ⟨h',hr⟩:=Pm ok h hk hw zT hm (T:=.wg k .wr) rfl;have hq:(if C.sys.quit (FT.wg k .wr:FT B)=true then none else some (FT.wg k .wr))=some (FT.wg k .wr:FT B):=rfl;rw [hq, <-hx];refine ⟨⟨pc,j,idx,_,h'⟩,?_⟩;unfold Uu;have hx0:(0:Nat)≠idx k:=by rw [hx];exact Ne.symm h0
   refine Za ?_ ?_
   ·rw [upd_ne hx0,h.h0];exact aJ _
   ·have :=Be (f:=uU) (g:=φ) (k:=idx k) (a:=some (FT.wg k .wr)) (n:=n) (by rw [hx];exact hi);rw [hx,hφ] at this;rw [hx];have this:sm n (λi_1=>uU (upd φ i (some (FT.wg k tC.wr)) i_1))+7=sm n (λi=>uU (φ i))+6:=this;omega
 | @wg k p s p' s' hm=>
   obtain ⟨h0,hk,hx,hw,_⟩:=h.Q0 hφ;obtain ⟨⟨o,ho,h',hr⟩,hv⟩:=Xp h hk hw hm;have hq:(if C.sys.quit (FT.wg k p')=true then none else some (FT.wg k p'))=o:=ho.symm;rw [hq, <-hx];refine ⟨⟨pc,j,idx,_,h'⟩,?_⟩;unfold Uu;have hx0:(0:Nat)≠idx k:=by rw [hx];exact Ne.symm h0
   refine Za ?_ ?_
   ·rw [upd_ne hx0,h.h0];exact Q5 hv
   ·have :=Be (f:=uU) (g:=φ) (k:=idx k) (a:=o) (n:=n) (by rw [hx];exact hi);rw [hx,hφ] at this;rw [hw] at hr;rw [hx];omega
end
end
section
section
variable {B Sb ρ:Type} {C:Gq B Sb} {inv:Nat->(Nat->Option B)->Sb->Prop} {rb:(Nat->Option B)->Sb->ρ} {lt:ρ->ρ->Prop} {n:Nat} {φ:Nat->Option (FT B)} {s:uT Sb} {pc:lU} {j:Nat} {idx:Nat->Nat} {ws:Nat->Option (FT B)}
theorem Xr {syn:Nat->Prop} (ok:nI C.body C.N syn inv rb lt) (h:LZ C inv n φ s) {T T' Tc:FT B} {s':uT Sb} (hφ:φ 0=some T) (hm:FSp C T s T' Tc s'):
 LZ C inv (n+1) (upd (upd φ 0 (some T')) n (some Tc)) s'∧Ht lt (Uu C rb (n+1) (upd (upd φ 0 (some T')) n (some Tc)) s') (Uu C rb n φ s):=by
 obtain ⟨pc,j,idx,ws,h⟩:=h;have hn0:=h.n0
 have key:∀{l:Nat},l<C.N->(gF C (l+1)).rank C.N s.v (l+1)<lU.Gp.rank C.N s.v l:= λ{l} hl=>by
  unfold gF;split<;>(simp [lU.rank];omega)
 have e0:∀{X:Option (FT B)},upd (upd φ 0 X) n (some Tc) 0=X:= λ{X}=>by rw [upd_ne (by omega),upd_same]
 cases hm with
 | @bd l _ b ho=>
   obtain ⟨_,rfl,rfl⟩:=h.Dz hφ;refine ⟨⟨_,_,_,_,Pn ok rfl h ho (T:=.bd l b) rfl⟩,?_⟩;unfold Uu;refine Uv ?_
   rw [e0,h.h0];exact key (h.jS rfl)
 | @wg l _ ho=>
   obtain ⟨_,rfl,rfl⟩:=h.Dz hφ;refine ⟨⟨_,_,_,_,Pn ok rfl h ho (T:=.wg l .wr) rfl⟩,?_⟩;unfold Uu;refine Uv ?_
   rw [e0,h.h0];exact key (h.jS rfl)
theorem am8 (j:Nat):C.sys.Z 0 (.st (gF C j) j)=C.Zs j:=by unfold gF;split<;>rfl
theorem Q6 (j:Nat):C.sys.deaf (.st (gF C j) j)=0:=by unfold gF;split<;>rfl
theorem Uw (hC:Cv C) {syn:Nat->Prop} (ok:nI C.body C.N syn inv rb lt) (h:LZ C inv n φ s) {T T' Tc:FT B} {s':uT Sb} (hφ:φ 0=some T) (hm:FSp C T s T' Tc s'):
 Same C.sys (tq C) s s'∧C.sys.nW s≠none∧C.sys.deaf T=0∧C.sys.deaf T'=0∧C.sys.deaf Tc=0∧C.sys.past Tc=false∧C.sys.quit T'=false∧C.sys.quit Tc=false∧
 (∀b,(C.sys.Z 0 T').ro b->(C.sys.Z 0 T).ro b)∧(∀b,(C.sys.Z 0 T').sy b->(C.sys.Z 0 T).sy b)∧(∀b,(C.sys.Z n Tc).ro b->(C.sys.Z 0 T).ro b)∧(∀b,(C.sys.Z n Tc).sy b->(C.sys.Z 0 T).sy b)∧
 (∀b k,(C.sys.Z 0 T').cl b k->(C.sys.Z 0 T').sy b∧(C.sys.Z 0 T).cl b k)∧(∀b k,(C.sys.Z n Tc).cl b k->(C.sys.Z n Tc).sy b∧(C.sys.Z 0 T).cl b k∧¬(C.sys.Z 0 T').cl b k):=by
 obtain ⟨pc,j,idx,ws,h⟩:=h
 have main:∀{l:Nat} {Tc:FT B},l<C.N->s.jn=false->C.sys.deaf Tc=0->C.sys.past Tc=false->C.sys.quit Tc=false->C.sys.Z n Tc=C.Zw l->
  Same C.sys (tq C) s s∧C.sys.nW s≠none∧C.sys.deaf (.st .Gp l)=0∧C.sys.deaf (.st (gF C (l+1)) (l+1))=0∧C.sys.deaf Tc=0∧C.sys.past Tc=false∧C.sys.quit (.st (gF C (l+1)) (l+1))=false∧C.sys.quit Tc=false∧
  (∀b,(C.sys.Z 0 (.st (gF C (l+1)) (l+1))).ro b->(C.sys.Z 0 (.st .Gp l)).ro b)∧(∀b,(C.sys.Z 0 (.st (gF C (l+1)) (l+1))).sy b->(C.sys.Z 0 (.st .Gp l)).sy b)∧(∀b,(C.sys.Z n Tc).ro b->(C.sys.Z 0 (.st .Gp l)).ro b)∧(∀b,(C.sys.Z n Tc).sy b->(C.sys.Z 0 (.st .Gp l)).sy b)∧
  (∀b k,(C.sys.Z 0 (.st (gF C (l+1)) (l+1))).cl b k->(C.sys.Z 0 (.st (gF C (l+1)) (l+1))).sy b∧(C.sys.Z 0 (.st .Gp l)).cl b k)∧(∀b k,(C.sys.Z n Tc).cl b k->(C.sys.Z n Tc).sy b∧(C.sys.Z 0 (.st .Gp l)).cl b k∧¬(C.sys.Z 0 (.st (gF C (l+1)) (l+1))).cl b k):=by
  intro l Tc hl hj d1 d2 d3 d4;refine ⟨⟨rfl,rfl,Iff.rfl, λ_ _ x=>x, λ_ _ _ x=>x⟩,by show (if s.jn then none else some (ConcR.stA C.Wg))≠none;rw [hj];simp,rfl,Q6 _,d1,d2,rfl,d3,?_⟩;rw [am8,d4];refine ⟨λb x=>x, λb x=>x, λb x=>x, λb x=>x, λb i x=>?_, λb i x=>?_⟩
  ·obtain ⟨k,k1,k2,k3⟩:=x;exact ⟨.inr (hC.cl k b i k2 k3),k,by omega,k2,k3⟩
  ·refine ⟨.inr (hC.cl l b i hl x),⟨l,aJ _,hl,x⟩, λ⟨k,k1,k2,k3⟩=>?_⟩;have :=hC.Y7 k l b i k3 x;omega
 cases hm with
 | @bd l _ b ho=>
   obtain ⟨_,rfl,rfl⟩:=h.Dz hφ;exact main (h.jS rfl) (h.mX (by simp)) (ok.LV _ _ ho) rfl rfl rfl
 | @wg l _ ho=>
   obtain ⟨_,rfl,rfl⟩:=h.Dz hφ;exact main (h.jS rfl) (h.mX (by simp)) rfl rfl rfl rfl
theorem FI.sD (h:FI C inv n φ s pc j idx ws) {k:Nat} {b:B} (hk:k<j) (hw:ws k=some (.bd k b)):(λk=>if k<j then jU (ws k) else none) k=some b:=by
 show (if k<j then jU (ws k) else none)=some b;rw [aj hk,hw];rfl
theorem ab3 {syn:Nat->Prop} (ok:nI C.body C.N syn inv rb lt) (h:LZ C inv n φ s) {i:Nat} {T T':FT B} {s':uT Sb} (hφ:φ i=some T) (zT:¬C.sys.blk T s) (hw:C.sys.wakes T=false) (hm:QZ C i T s T' s') {l:Nat} {Tl:FT B} (hl:l≠i) (Ux:φ l=some Tl) (hb:C.sys.blk Tl s):C.sys.blk Tl s':=by
 obtain ⟨pc,j,idx,ws,h⟩:=h;cases hm with
 | @st p q s p' s' hm=>
   obtain ⟨rfl,rfl,rfl⟩:=h.Dz hφ;have e:s'.b=s.b:=by cases hm<;>rfl
   cases Tl with
   |st p2 q2=>exact absurd (h.Dz Ux).1 hl
   |bd k b=>show C.body.blk b s'.b;rw [e];exact hb
   |wg _ _=>exact hb.elim
 | @bd k b s b' sb' hm=>
   obtain ⟨_,hk,hx,hwk⟩:=h.lZ hφ;cases Tl with
   |st p2 q2=>cases p2<;>first |exact hb|exact hb.elim
   |bd k2 b2=>
    obtain ⟨_,hk2,hx2,hw2⟩:=h.lZ Ux;have hne:k2≠k:= λe=>hl (by rw [<-hx2, <-hx,e])
    exact ok.stay h.body hk (h.sD hk hwk) zT hw hm k2 b2 hk2 hne (h.sD hk2 hw2) hb
   |wg _ _=>exact hb.elim
 | @Af k b s sb' hm=>
   obtain ⟨_,hk,hx,hwk⟩:=h.lZ hφ;cases Tl with
   |st p2 q2=>cases p2<;>first |exact hb|exact hb.elim
   |bd k2 b2=>
    obtain ⟨_,hk2,hx2,hw2⟩:=h.lZ Ux;have hne:k2≠k:= λe=>hl (by rw [<-hx2, <-hx,e])
    exact ok.stay h.body hk (h.sD hk hwk) zT hw hm k2 b2 hk2 hne (h.sD hk2 hw2) hb
   |wg _ _=>exact hb.elim
 | @wg k p s p' s' hm=>
   have e:s'.b=s.b:=by cases hm<;>rfl
   cases Tl with
   |st p2 q2=>
    have e2:p≠ .d4->s'.sm=s.sm:= λhp=>by cases hm<;>first |rfl|exact absurd rfl hp
    have hp:p≠ .d4:= λx=>by subst x;cases hw
    cases p2<;>first |exact hb.elim|(show s'.sm=0;rw [e2 hp];exact hb)
   |bd k b=>show C.body.blk b s'.b;rw [e];exact hb
   |wg _ _=>exact hb.elim
theorem Xt {syn:Nat->Prop} (ok:nI C.body C.N syn inv rb lt) (h:LZ C inv n φ s):∃i T,i<n∧φ i=some T∧¬C.sys.blk T s:=by
 obtain ⟨pc,j,idx,ws,h⟩:=h
 by_cases hwg:∃k p,k<j∧ws k=some (.wg k p)
 ·obtain ⟨k,p,hk,hw⟩:=hwg;exact ⟨idx k,.wg k p,(h.ij k hk).2,by rw [h.at' k hk];exact hw, λx=>x⟩
 by_cases hbd:∃k b,k<j∧ws k=some (.bd k b)
 ·obtain ⟨k,b,hk,hw⟩:=hbd;obtain ⟨k,b,hk,Hw,hnb⟩:=ok.alive h.body ⟨k,b,hk,h.sD hk hw⟩;have Hw:(if k<j then jU (ws k) else none)=some b:=Hw;rw [aj hk] at Hw
  have hw:ws k=some (.bd k b):=by
   cases hT:ws k with
   |none=>rw [hT] at Hw;cases Hw
   |some T=>
    rcases h.who k T hk hT with ⟨b',rfl⟩|⟨p,rfl,_⟩
    ·rw [hT] at Hw;have :b'=b:=aU Hw;rw [this]
    ·rw [hT] at Hw;cases Hw
  exact ⟨idx k,.bd k b,(h.ij k hk).2,by rw [h.at' k hk];exact hw,hnb⟩
 ·have hno:∀k,k<j->ws k=none:= λk hk=>by
   cases hT:ws k with
   |none=>rfl
   |some T=>
    rcases h.who k T hk hT with ⟨b,rfl⟩|⟨p,rfl,_⟩
    ·exact absurd ⟨k,b,hk,hT⟩ hbd
    ·exact absurd ⟨k,p,hk,hT⟩ hwg
  refine ⟨0,_,h.n0,h.h0, λhb=>?_⟩;cases pc with
  |w3=>
   have hb:s.sm=0:=hb
   have z:∀f:Option (FT B)->Nat,f none=0->sm j (λk=>f (ws k))=0:= λf hf=>by
    apply bq;intro hne;obtain ⟨k,hk,hp⟩:=Y8 (f:= λk=>f (ws k)) (n:=j) (by omega);rw [hno k hk,hf] at hp;omega
   have hc:=h.cnt;rw [z pre rfl] at hc;have hw:=h.LY rfl;rw [z Ah rfl,z x4 rfl] at hw;simp [lU.pend] at hc;omega
  |_=>exact hb
theorem Uy {syn:Nat->Prop} (ok:nI C.body C.N syn inv rb lt) (h:LZ C inv n φ s) {i:Nat} {T T':FT B} {s':uT Sb} (hφ:φ i=some T) (hm:QZ C i T s T' s'):C.sys.deaf T'=Kind.jG (C.sys.deaf T) (C.sys.kind T):=by
 obtain ⟨pc,j,idx,ws,h⟩:=h;cases hm with
 | @st p q s p' s' hm=>
   show p'.deaf=Kind.jG p.deaf p.kind;cases hm<;>first |rfl|(split<;>rfl)
 | @bd k b s b' sb' hm=>
   obtain ⟨_,hk,hx,hwk⟩:=h.lZ hφ;exact (ok.jG h.body hk (h.sD hk hwk) hm).symm
 | @Af k b s sb' hm=>
   obtain ⟨_,hk,hx,hwk⟩:=h.lZ hφ;exact (ok.jG h.body hk (h.sD hk hwk) hm).symm
 | @wg k p s p' s' hm=>
   show p'.deaf=Kind.jG p.deaf p.kind;cases hm<;>first |rfl|(split<;>rfl)
theorem Xu {syn:Nat->Prop} (ok:nI C.body C.N syn inv rb lt) (h:LZ C inv n φ s) {i:Nat} {T T':FT B} {s':uT Sb} (hφ:φ i=some T) (hm:QZ C i T s T' s') (hk:(C.sys.kind T).plain=true):Same C.sys (tq C) s s'∧C.sys.Z i T'=C.sys.Z i T∧C.sys.past T'=C.sys.past T:=by
 obtain ⟨pc,j,idx,ws,h⟩:=h;cases hm with
 | @st p q s p' s' hm=>
   have hk:p.kind.plain=true:=hk
   have main:∀s':uT Sb,s'.jn=s.jn->s'.b=s.b->s'.dn=s.dn->Same C.sys (tq C) s s':= λs' e1 e2 e3=>
    ⟨by show (if s'.jn then none else C.body.gq)=_;rw [e1];rfl,by show (if s'.jn then none else some (ConcR.stA C.Wg))=_;rw [e1];rfl,by unfold tq;rw [e1,e2], λG w x=>by show C.body.J s'.b G w;rw [e2];exact x, λD Dc w x=>by show s'.jn=true∨C.Dp s'.dn D Dc w;rw [e1,e3];exact x⟩
   cases hm<;>first |exact ⟨main _ rfl rfl rfl,rfl,rfl⟩|(split<;>exact ⟨main _ rfl rfl rfl,rfl,rfl⟩)|cases hk
 | @bd k b s b' sb' hm=>
   obtain ⟨_,hkj,hx,hwk⟩:=h.lZ hφ;obtain ⟨a1,a2⟩:=ok.plain h.body hkj (h.sD hkj hwk) hm hk;exact ⟨⟨rfl,rfl,by unfold tq;exact and_congr Iff.rfl a1,a2, λ_ _ _ x=>x⟩,rfl,rfl⟩
 | @Af k b s sb' hm=>
   obtain ⟨_,hkj,hx,hwk⟩:=h.lZ hφ;obtain ⟨a1,a2⟩:=ok.plain h.body hkj (h.sD hkj hwk) hm hk;exact ⟨⟨rfl,rfl,by unfold tq;exact and_congr Iff.rfl a1,a2, λ_ _ _ x=>x⟩,rfl,rfl⟩
 | @wg k p s p' s' hm=>
   have hk:p.kind.plain=true:=hk
   have main:∀s':uT Sb,s'.jn=s.jn->s'.b=s.b->s'.dn=s.dn->Same C.sys (tq C) s s':= λs' e1 e2 e3=>
    ⟨by show (if s'.jn then none else C.body.gq)=_;rw [e1];rfl,by show (if s'.jn then none else some (ConcR.stA C.Wg))=_;rw [e1];rfl,by unfold tq;rw [e1,e2], λG w x=>by show C.body.J s'.b G w;rw [e2];exact x, λD Dc w x=>by show s'.jn=true∨C.Dp s'.dn D Dc w;rw [e1,e3];exact x⟩
   cases hm<;>first |exact ⟨main _ rfl rfl rfl,rfl,rfl⟩|(split<;>exact ⟨main _ rfl rfl rfl,rfl,rfl⟩)|cases hk
end
end
end Par
