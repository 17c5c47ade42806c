/- Part 6. -/
import Derived.Test.YtjoahejacacljaaGreatH04
set_option maxRecDepth 100000
set_option maxHeartbeats 0
set_option linter.all false
namespace cS
open Go Go.Conc Go.ConcM Go.ConcN
section
structure LT where
 l:LK
 c:Nat
 snap:Nat
structure MS where
 mu:Nat
 ms:Nat
 c0:Nat
 c1:Nat
 own:Bool
def MS.c(s:MS)(k:Nat):Nat:=if k=0 then s.c0 else s.c1
def MS.o(s:MS)(k:Nat):Nat:=if k=0 then s.c1 else s.c0
def MS.IG(s:MS)(k c:Nat):MS:=if k=0 then{ s with c0:=c }else{ s with c1:=c }
def Aq.kind:Aq->Kind
 | .ld| .ud=>.disable
 | .le| .ue=>.enable
 | .t1| .t2=>.clock
 | .s1| .us=>.sem
 | .la=>.pz
 | .ur=>.pE
 |_=>.atomic
def Aq.deaf:Aq->Nat
 | .ld| .la| .ur| .ud| .out=>0
 |_=>1
def Aq.early:Aq->Bool
 | .ud| .u0| .uc| .us| .ue| .out=>false
 |_=>true
inductive WJ(N:Nat->Nat)(k:Nat):LT->MS->Option LT->MS->Prop
 |la {l c n s r} (hp:l.pc=.la) (hr:r∈qo l s.mu s.ms):WJ N k ⟨l,c,n⟩ s (some ⟨r.1,c,s.o k⟩) { s with mu:=r.2.1,ms:=r.2.2,own:=true }
 |ur {l c n s r} (hp:l.pc=.ur) (hr:r∈qo l s.mu s.ms):WJ N k ⟨l,c,n⟩ s (some ⟨r.1,c+1,n⟩) { (s.IG k (c+1))with mu:=r.2.1,ms:=r.2.2,own:=false }
 |more {c n s} (hc:c<N k):WJ N k ⟨lk .ue,c,n⟩ s (some ⟨lk .ld,c,n⟩) s
 |last {c n s} (hc:c=N k):WJ N k ⟨lk .ue,c,n⟩ s none s
 |go {l c n s r} (hp:l.pc≠ .la∧l.pc≠ .ur∧l.pc≠ .ue∧l.pc≠ .out) (hr:r∈qo l s.mu s.ms):WJ N k ⟨l,c,n⟩ s (some ⟨r.1,c,n⟩) { s with mu:=r.2.1,ms:=r.2.2 }
def Kq(Mu:Nat)(tM:TypeId)(N:Nat->Nat)(J:Nat->Nat->(Nat->Prop)->World->Prop):Body LT MS where
 fM:=some (muA Mu)
 rep:= λs W=>MuAt tM Mu W s.mu s.ms
 J:= λs=>J s.c0 s.c1
 free:= λs=>s.own=false
 init:= λk o=>o=if N k=0 then none else some ⟨lk .ld,0,0⟩
 mv:=WJ N
 blk:= λb s=>b.l.pc=.s1∧s.ms=0
 wakes:= λb=>match b.l.pc with
  | .us=>true
  |_=>false
 kind:= λb=>b.l.pc.kind
 deaf:= λb=>b.l.pc.deaf
 fits:= λk b s=>Kn s.mu=true∧s.ms<=1∧(∀r∈qo b.l s.mu s.ms,r.1.wC=false)∧b.c=s.c k∧(b.l.pc=.ur->b.snap=s.o k)∧(b.l.pc.early=true->b.c<N k)∧b.c<=N k∧k<2
 fin:= λs=>s.c0=N 0∧s.c1=N 1
def proj:Option LT->LK
 |some b=>b.l
 |none=>lk .out
def lg(ψ:Nat->Option LT)(s:MS):LG:=⟨proj (ψ 0),proj (ψ 1),s.mu,s.ms⟩
structure MInv(N:Nat->Nat)(j:Nat)(ψ:Nat->Option LT)(s:MS):Prop where
 j2:j<=2
 reach:Reach (lg ψ s)
 some_:∀k b,k<2->ψ k=some b->k<j∧b.c=s.c k∧(b.l.pc.early=true->b.c<N k)∧b.c<=N k∧(b.l.pc=.ur->b.snap=s.o k)∧b.l.pc≠ .out
 none_:∀k,k<2->ψ k=none->(k<j->s.c k=N k)∧(j<=k->s.c k=0)
 own:s.own=true↔∃k b,k<2∧ψ k=some b∧b.l.pc=.ur
section
variable {N:Nat->Nat} {j:Nat} {ψ:Nat->Option LT} {s:MS}
def vB{k:Nat}(hk:k<2){b:LT}(D5:ψ k=some b)(h:Reach (lg ψ s)){o:Option LT}{mu ms:Nat}{x:LK}(hr:(x,mu,ms)∈qo b.l s.mu s.ms)(ho:proj o=x)(s':MS)(h1:s'.mu=mu)(h2:s'.ms=ms):
 Reach (lg (upd ψ k o) s')∧(b.l.wW=false->uG (lg (upd ψ k o) s')<uG (lg ψ s)):=by
 subst h1 h2 ho;obtain rfl|rfl:k=0∨k=1:=by omega
 .have e:lg (upd ψ 0 o) s'=⟨proj o,proj (ψ 1),s'.mu,s'.ms⟩:=by unfold lg;rw[upd_same,upd_ne (by decide)]
  rw[e];have hb:(lg ψ s).a=b.l:=by unfold lg;rw[D5];rfl
  have :=IC h (h:=⟨proj o,proj (ψ 1),s'.mu,s'.ms⟩) (by unfold LG.sa;exact List.mem_map.2 ⟨_,by rw[hb];exact hr,rfl⟩)
  rw[hb]at this;exact this
 .have e:lg (upd ψ 1 o) s'=⟨proj (ψ 0),proj o,s'.mu,s'.ms⟩:=by unfold lg;rw[upd_same,upd_ne (by decide)]
  rw[e];have hb:(lg ψ s).b=b.l:=by unfold lg;rw[D5];rfl
  have :=IE h (h:=⟨proj (ψ 0),proj o,s'.mu,s'.ms⟩) (by unfold LG.sb;exact List.mem_map.2 ⟨_,by rw[hb];exact hr,rfl⟩)
  rw[hb]at this;exact this
def MInv.safe(h:MInv N j ψ s):(lg ψ s).safe=true:=Cx h.reach
def wX{g:LG}(h:g.safe=true):g.a.wC=false∧g.b.wC=false∧(g.a.Eg=true->g.b.Eg=true->False)∧Kn g.mu=true∧g.ms<=1:=by simp only[LG.safe,bB,Bool.not_eq_true',decide_eq_true_eq]at h;obtain⟨⟨⟨⟨⟨h1,h2⟩,h3⟩,_⟩,h5⟩,h6⟩:=h;exact⟨h1,h2, λa b=>by rw[a,b]at h3;simp at h3,h5,h6⟩
def MInv.alone(h:MInv N j ψ s){k l:Nat}{b c:LT}(hk:k<2)(hl:l<2)(hkl:l≠k)(hb:ψ k=some b)(hc:ψ l=some c)(h1:b.l.Eg=true)(h2:c.l.Eg=true):False:=by
 have hs:=(wX h.safe).2.2.1;obtain⟨rfl,rfl⟩|⟨rfl,rfl⟩:(k=0∧l=1)∨(k=1∧l=0):=by omega
 .exact hs (by unfold lg;rw[hb];exact h1) (by unfold lg;rw[hc];exact h2)
 .exact hs (by unfold lg;rw[hc];exact h2) (by unfold lg;rw[hb];exact h1)
def FU{k:Nat}(hk:k<2){b:LT}(D5:ψ k=some b)(h:Reach (lg ψ s)):∀r∈qo b.l s.mu s.ms,r.1.wC=false:=by
 intro⟨x,mu,ms⟩ hr;have :=(vB hk D5 h (o:=some ⟨x,0,0⟩) hr rfl { s with mu:=mu,ms:=ms } rfl rfl).1;have hs:=wX (Cx this);obtain rfl|rfl:k=0∨k=1:=by omega
 .have :=hs.1;unfold lg at this;rw[upd_same]at this;exact this
 .have :=hs.2.1;unfold lg at this;rw[upd_same]at this;exact this
def MInv.fits(h:MInv N j ψ s){k:Nat}(hk:k<j){b:LT}(D5:ψ k=some b)(Mu:Nat)(tM:TypeId)(J:Nat->Nat->(Nat->Prop)->World->Prop):(Kq Mu tM N J).fits k b s:=by
 have hk2:k<2:=by have :=h.j2;omega
 obtain⟨_,h1,h2,h3,h4,_⟩:=h.some_ k b hk2 D5;have hs:=wX h.safe;exact⟨hs.2.2.2.1,hs.2.2.2.2,FU hk2 D5 h.reach,h1,h4,h2,h3,hk2⟩
def Cy{l:LK}{mu ms:Nat}:∀r∈qo l mu ms,r.1.wC=false->(r.1.pc=.out->l.pc=.ue)∧(r.1.pc=.ur->l.pc=.la)∧(l.pc≠ .ur->l.pc≠ .ue->l.pc≠ .out->l.pc.early=true->r.1.pc.early=true)∧(l.pc.early=false->l.pc≠ .ue->l.pc≠ .out->r.1.pc.early=false)∧(l.pc=.ur->r.1.pc.early=false)∧
 (l.pc≠ .ue->l.pc≠ .out->r.1.pc.deaf=Kind.iD l.pc.deaf l.pc.kind)∧(l.pc≠ .us->l.pc≠ .s1->r.2.2=ms):=by
 intro r hr hb;obtain⟨pc,old,nw,aw,sv,it,ws⟩:=l;have nb:∀{x:LK},x.wC=false->x.pc≠ .bad:= λ{x}hx e=>by unfold LK.wC at hx;rw[e]at hx;cases hx
 cases pc<;>simp only[qo]at hr
 case hd=>
  simp at hr;subst hr;have hn:=nb hb;unfold FQ at hn⊢;simp only at hn⊢;split
  .split<;>simp[Aq.early,Aq.deaf,Aq.kind,Kind.iD]
  .rename_i h;rw[aa h]at hn;exact absurd rfl hn
 all_goals
  (repeat' split at hr)<;>simp at hr<;>(try(rcases hr with hr|hr))<;>(try subst hr)<;>first
    |exact hr.elim
    |(exact absurd rfl (nb hb))
    |(simp[Aq.early,Aq.deaf,Aq.kind,Kind.iD,lk];done)
    |(cases ws<;>simp[Aq.early,Aq.deaf,Aq.kind,Kind.iD,lk];done)
    |(cases sv<;>simp[Aq.early,Aq.deaf,Aq.kind,Kind.iD,lk];done)
end
end
section
section
variable {N:Nat->Nat} {j:Nat} {ψ:Nat->Option LT} {s:MS}
def two{k l:Nat}(hk:k<2)(hl:l<2)(h:l≠k):∀m,m<2->m=k∨m=l:= λm hm=>by omega
def MInv.upd(h:MInv N j ψ s){k:Nat}(hk:k<j){x:LT}(hx:ψ k=some x){o:Option LT}{s':MS}(hr:Reach (lg (cS.upd ψ k o) s'))
 (hc:∀l,l<2->l≠k->s'.c l=s.c l) (ho:∀l b,l<2->l≠k->ψ l=some b->b.l.pc=.ur->s'.o l=s.o l)
 (hs:∀b,o=some b->b.c=s'.c k∧(b.l.pc.early=true->b.c<N k)∧b.c<=N k∧(b.l.pc=.ur->b.snap=s'.o k)∧b.l.pc≠ .out) (hn:o=none->s'.c k=N k)
 (hown:s'.own=true↔(∃b,o=some b∧b.l.pc=.ur)∨∃l b,l<2∧l≠k∧ψ l=some b∧b.l.pc=.ur):MInv N j (cS.upd ψ k o) s':=by
 have hk2:k<2:=by have :=h.j2;omega
 refine⟨h.j2,hr, λl b hl hb=>?_, λl hl hb=>?_,?_⟩
 .by_cases e:l=k
  .subst e;rw[upd_same]at hb;exact⟨hk,hs b hb⟩
  .rw[upd_ne e]at hb;obtain⟨a1,a2,a3,a4,a5,a6⟩:=h.some_ l b hl hb;exact⟨a1,by rw[hc l hl e];exact a2,a3,a4, λx=>by rw[ho l b hl e hb x];exact a5 x,a6⟩
 .by_cases e:l=k
  .subst e;rw[upd_same]at hb;exact⟨λ_=>hn hb, λx=>by omega⟩
  .rw[upd_ne e]at hb;rw[hc l hl e];exact h.none_ l hl hb
 .rw[hown];constructor
  .rintro(⟨b,h1,h2⟩|⟨l,b,h1,h2,h3,h4⟩)
   .exact⟨k,b,hk2,by rw[upd_same];exact h1,h2⟩
   .exact⟨l,b,h1,by rw[upd_ne h2];exact h3,h4⟩
  .rintro⟨l,b,h1,h2,h3⟩
   by_cases e:l=k
   .subst e;rw[upd_same]at h2;exact .inl ⟨b,h2,h3⟩
   .rw[upd_ne e]at h2;exact .inr ⟨l,b,h1,e,h2,h3⟩
def ae1{s:MS}{k c l:Nat}(h:l≠k)(hk:k<2)(hl:l<2):(s.IG k c).c l=s.c l:=by
 obtain⟨rfl,rfl⟩|⟨rfl,rfl⟩:(k=0∧l=1)∨(k=1∧l=0):=by omega
 .rfl
 .rfl
def Kr{s:MS}{k c:Nat}(hk:k<2):(s.IG k c).c k=c:=by
 obtain rfl|rfl:k=0∨k=1:=by omega
 .rfl
 .rfl
noncomputable def nj(N:Nat->Nat)(ψ:Nat->Option LT)(s:MS):Nat×Nat:=((N 0-s.c0)+(N 1-s.c1),uG (lg ψ s))
def mlt:Nat×Nat->Nat×Nat->Prop:=Prod.Lex Nat.lt Nat.lt
def QX{l:LK}:l.wW=true↔l.pc=.ur:=by unfold LK.wW;cases l.pc<;>simp
def FV{l:LK}(h:l.pc=.ur):l.Eg=true:=by unfold LK.Eg;rw[h]
def UT{l:LK}(h:l.pc=.la):l.Eg=true:=by unfold LK.Eg;rw[h]
def UU(h:MInv N j ψ s){k:Nat}(hk:k<j){x:LT}(hx:ψ k=some x){o:Option LT}{s':MS}(hm:WJ N k x s o s'):
 MInv N j (upd ψ k o) s'∧(∀y,o=some y->mlt (nj N (upd ψ k o) s') (nj N ψ s)):=by
 have hk2:k<2:=by have :=h.j2;omega
 obtain⟨_,D9,hxe,pj,hxs,hxo⟩:=h.some_ k x hk2 hx;have nb:=FU hk2 hx h.reach
 have dR:(∃b,ψ k=some b∧b.l.pc=.ur)∨(∃l b,l<2∧l≠k∧ψ l=some b∧b.l.pc=.ur)↔s.own=true:=by
  rw[h.own];constructor
  .rintro(⟨b,h1,h2⟩|⟨l,b,h1,h2,h3,h4⟩)
   .exact⟨k,b,hk2,h1,h2⟩
   .exact⟨l,b,h1,h3,h4⟩
  .rintro⟨l,b,h1,h2,h3⟩
   by_cases e:l=k
   .subst e;exact .inl ⟨b,h2,h3⟩
   .exact .inr ⟨l,b,h1,e,h2,h3⟩
 cases hm with
 | @la l c m _ r hp hr=>
   have he:r=(lk .ur,s.mu,s.ms):=by have hr':=hr;unfold qo at hr';rw[hp]at hr';simpa using hr'
   have hu:l.wW=false:=by unfold LK.wW;rw[hp]
   obtain⟨s1,s2⟩:=vB hk2 hx h.reach (o:=some ⟨r.1,c,s.o k⟩) (x:=r.1) (mu:=r.2.1) (ms:=r.2.2) hr rfl { s with mu:=r.2.1,ms:=r.2.2,own:=true } rfl rfl;refine⟨h.upd hk hx s1 (λ_ _ _=>rfl) (λ_ _ _ _ _ _=>rfl) (λb hb=>?_) (λe=>by cases e) ⟨λ_=>.inl ⟨_,rfl,by rw[he]⟩, λ_=>rfl⟩, λy _=>.right _ (s2 hu)⟩;cases hb;have hpe:l.pc.early=true:=by rw[hp];rfl
   exact⟨D9, λ_=>hxe hpe,pj, λ_=>rfl,by rw[he];simp⟩
 | @ur l c m _ r hp hr=>
   have he:r=(lk .ud,s.mu,s.ms):=by have hr':=hr;unfold qo at hr';rw[hp]at hr';simpa using hr'
   have hce:c<N k:=hxe (by show l.pc.early=true;rw[hp];rfl);have hno:∀l' b,l'<2->l'≠k->ψ l'=some b->b.l.pc≠ .ur:= λl' b h1 h2 h3 h4=>h.alone hk2 h1 h2 hx h3 (FV hp) (FV h4)
   obtain⟨s1,_⟩:=vB hk2 hx h.reach (o:=some ⟨r.1,c+1,m⟩) (x:=r.1) (mu:=r.2.1) (ms:=r.2.2) hr rfl { (s.IG k (c+1))with mu:=r.2.1,ms:=r.2.2,own:=false } rfl rfl;refine⟨h.upd hk hx s1 (λl' hl hne=>ae1 hne hk2 hl) (λl' b hl hne hb hu=>absurd hu (hno l' b hl hne hb)) (λb hb=>?_) (λe=>by cases e) ⟨λe=>(by cases e), λe=>?_⟩, λy _=>.left _ _ ?_⟩
   .cases hb;exact⟨(Kr hk2).symm,(λe=>by rw[he]at e;cases e),hce,(λe=>by rw[he]at e;cases e),by rw[he];simp⟩
   .rcases e with⟨b,hb,hbu⟩|⟨l',b,h1,h2,h3,h4⟩
    .cases hb;rw[he]at hbu;cases hbu
    .exact absurd h4 (hno l' b h1 h2 h3)
   .have D9:c=s.c k:=D9;obtain rfl|rfl:k=0∨k=1:=by omega
    .have:c=s.c0:=D9;show(N 0-(c+1))+(N 1-s.c1)<(N 0-s.c0)+(N 1-s.c1);omega
    .have:c=s.c1:=D9;show(N 0-s.c0)+(N 1-(c+1))<(N 0-s.c0)+(N 1-s.c1);omega
 | @more c m _ hc=>
   obtain⟨s1,s2⟩:=vB hk2 hx h.reach (o:=some ⟨lk .ld,c,m⟩) (x:=lk .ld) (mu:=s.mu) (ms:=s.ms) (by simp[qo]) rfl s rfl rfl;refine⟨h.upd hk hx s1 (λ_ _ _=>rfl) (λ_ _ _ _ _ _=>rfl) (λb hb=>?_) (λe=>by cases e) ?_, λy _=>.right _ (s2 rfl)⟩
   .cases hb;exact⟨D9, λ_=>hc,pj, λe=>(by cases e),by simp⟩
   .rw[<-dR];exact⟨λe=>e.elim (λ⟨b,h1,h2⟩=>by rw[hx]at h1;cases h1;cases h2) .inr, λe=>e.elim (λ⟨b,h1,h2⟩=>by cases h1;cases h2) .inr⟩
 | @last c m _ hc=>
   obtain⟨s1,s2⟩:=vB hk2 hx h.reach (o:=none) (x:=lk .out) (mu:=s.mu) (ms:=s.ms) (by simp[qo]) rfl s rfl rfl;refine⟨h.upd hk hx s1 (λ_ _ _=>rfl) (λ_ _ _ _ _ _=>rfl) (λb hb=>by cases hb) (λ_=>by rw[<-D9];exact hc) ?_, λy e=>by cases e⟩;rw[<-dR];exact⟨λe=>e.elim (λ⟨b,h1,h2⟩=>by rw[hx]at h1;cases h1;cases h2) .inr, λe=>e.elim (λ⟨b,h1,h2⟩=>by cases h1) .inr⟩
 | @go l c m _ r hp hr=>
   obtain⟨hp1,hp2,hp3,hp4⟩:=hp;obtain⟨a1,a2,a3,a4,a5,a6,a7⟩:=Cy r hr (nb r hr)
   have hu:l.wW=false:=by
    cases e:l.wW with
    |false=>rfl
    |true=>exact absurd (QX.1 e) hp2
   obtain⟨s1,s2⟩:=vB hk2 hx h.reach (o:=some ⟨r.1,c,m⟩) (x:=r.1) (mu:=r.2.1) (ms:=r.2.2) hr rfl { s with mu:=r.2.1,ms:=r.2.2 } rfl rfl;have Wf:r.1.pc≠ .ur:= λe=>hp1 (a2 e)
   refine⟨h.upd hk hx s1 (λ_ _ _=>rfl) (λ_ _ _ _ _ _=>rfl) (λb hb=>?_) (λe=>by cases e) ?_, λy _=>.right _ (s2 hu)⟩
   .cases hb;refine⟨D9, λe=>hxe ?_,pj, λe=>absurd e Wf, λe=>hp3 (a1 e)⟩;show l.pc.early=true;cases el:l.pc.early with
    |true=>rfl
    |false=>rw[a4 el hp3 hp4]at e;cases e
   .have e:({ s with mu:=r.2.1,ms:=r.2.2 }:MS).own=s.own:=rfl;rw[e, <-dR];exact⟨λe=>e.elim (λ⟨b,h1,h2⟩=>by rw[hx]at h1;cases h1;exact absurd h2 hp2) .inr, λe=>e.elim (λ⟨b,h1,h2⟩=>by cases h1;exact absurd h2 Wf) .inr⟩
end
end
section
section
variable {N:Nat->Nat} {j:Nat} {ψ:Nat->Option LT} {s:MS}
def UW{k:Nat}(hk:k<2)(D5:ψ k=none)(h:Reach (lg ψ s)):Reach (lg (upd ψ k (some ⟨lk .ld,0,0⟩)) s):=by
 obtain rfl|rfl:k=0∨k=1:=by omega
 .have e:lg (upd ψ 0 (some ⟨lk .ld,0,0⟩)) s=⟨lk .ld,proj (ψ 1),s.mu,s.ms⟩:=by unfold lg;rw[upd_same,upd_ne (by decide)];rfl
  rw[e];have hb:(lg ψ s).a=lk .out:=by unfold lg;rw[D5];rfl
  exact(IC h (by unfold LG.sa;exact List.mem_map.2 ⟨(lk .ld,s.mu,s.ms),by rw[hb];simp[qo];exact⟨rfl,rfl⟩,rfl⟩)).1
 .have e:lg (upd ψ 1 (some ⟨lk .ld,0,0⟩)) s=⟨proj (ψ 0),lk .ld,s.mu,s.ms⟩:=by unfold lg;rw[upd_same,upd_ne (by decide)];rfl
  rw[e];have hb:(lg ψ s).b=lk .out:=by unfold lg;rw[D5];rfl
  exact(IE h (by unfold LG.sb;exact List.mem_map.2 ⟨(lk .ld,s.mu,s.ms),by rw[hb];simp[qo];exact⟨rfl,rfl⟩,rfl⟩)).1
def QY(h:MInv N j ψ s)(hj:j<2)(hn:ψ j=none){o:Option LT}(ho:o=if N j=0 then none else some ⟨lk .ld,0,0⟩):MInv N (j+1) (upd ψ j o) s:=by
 have hc0:=(h.none_ j hj hn).2 (aJ _)
 have Wf:∀b,o=some b->b.l.pc≠ .ur:= λb hb e=>by
  rw[ho]at hb;split at hb
  .cases hb
  .cases hb;cases e
 refine⟨by omega,?_, λk b hk hb=>?_, λk hk hb=>?_,?_⟩
 .rw[ho];split
  .have:upd ψ j none=ψ:=by
    funext k
    by_cases e:k=j
    .subst e;rw[upd_same,hn]
    .rw[upd_ne e]
   rw[this];exact h.reach
  .exact UW hj hn h.reach
 .by_cases e:k=j
  .subst e;rw[upd_same,ho]at hb;split at hb
   .cases hb
   .rename_i hN;cases hb;exact⟨by omega,hc0.symm, λ_=>by show 0<N k;omega,by show 0<=N k;omega, λe=>(by cases e),by simp⟩
  .rw[upd_ne e]at hb;obtain⟨a1,a2⟩:=h.some_ k b hk hb;exact⟨by omega,a2⟩
 .by_cases e:k=j
  .subst e;rw[upd_same,ho]at hb;split at hb
   .rename_i hN;exact⟨λ_=>by rw[hc0,hN], λx=>by omega⟩
   .cases hb
  .rw[upd_ne e]at hb;obtain⟨a1,a2⟩:=h.none_ k hk hb;exact⟨λx=>a1 (by omega), λx=>a2 (by omega)⟩
 .rw[h.own];constructor
  .rintro⟨k,b,h1,h2,h3⟩;have e:k≠j:= λe=>by subst e;rw[hn]at h2;cases h2
   exact⟨k,b,h1,by rw[upd_ne e];exact h2,h3⟩
  .rintro⟨k,b,h1,h2,h3⟩
   by_cases e:k=j
   .subst e;rw[upd_same]at h2;exact absurd h3 (Wf b h2)
   .rw[upd_ne e]at h2;exact⟨k,b,h1,h2,h3⟩
def UX{k:Nat}{x:LT}{o:Option LT}{s':MS}(h:MInv N j ψ s)(hk:k<j)(hx:ψ k=some x)(vW:¬(x.l.pc=.s1∧s.ms=0))(hw:x.l.pc≠ .us)(hm:WJ N k x s o s')(h0:s.ms=0):s'.ms=0:=by
 have hk2:k<2:=by have :=h.j2;omega
 have nb:=FU hk2 hx h.reach
 have key:∀r∈qo x.l s.mu s.ms,r.2.2=0:= λr hr=>by rw[(Cy r hr (nb r hr)).2.2.2.2.2.2 hw λe=>vW ⟨e,h0⟩];exact h0
 cases hm with
 |la hp hr=>exact key _ hr
 |ur hp hr=>exact key _ hr
 |more hc=>exact h0
 |last hc=>exact h0
 |go hp hr=>exact key _ hr
def QZ(h:MInv N j ψ s)(he:∃k x,k<j∧ψ k=some x):∃k x,k<j∧ψ k=some x∧¬(x.l.pc=.s1∧s.ms=0):=by
 apply bn;intro hno
 have hall:∀k x,k<2->ψ k=some x->(x.l.pc=.s1∧s.ms=0):= λk x hk hx=>by apply bn;intro hn;exact hno ⟨k,x,(h.some_ k x hk hx).1,hx,hn⟩
 have hs:=h.safe;simp only[LG.safe,bB]at hs;have hs:=hs.1.1.2
 have st:∀k,k<2->((proj (ψ k)).rH||(proj (ψ k)).stuck s.ms)=true:= λk hk=>by
  cases hx:ψ k with
  |none=>rfl
  |some x=>
   obtain⟨e1,e2⟩:=hall k x hk hx;show(x.l.rH||x.l.stuck s.ms)=true;unfold LK.stuck;rw[e1,e2];simp
 obtain⟨k,x,hk,hx⟩:=he;have hk2:k<2:=by have :=h.j2;omega
 have hpc:=(hall k x hk2 hx).1;have hnot:(proj (ψ k)).rH=false:=by rw[hx];show x.l.rH=false;unfold LK.rH;rw[hpc]
 have s0:=st 0 (by omega);have s1:=st 1 (by omega);have hs:((proj (ψ 0)).rH&&(proj (ψ 1)).rH||!(((proj (ψ 0)).rH||(proj (ψ 0)).stuck s.ms)&&((proj (ψ 1)).rH||(proj (ψ 1)).stuck s.ms)))=true:=hs;rw[s0,s1]at hs;simp at hs;obtain rfl|rfl:k=0∨k=1:=by omega
 .rw[hnot]at hs;simp at hs
 .rw[hnot]at hs;simp at hs
variable {Mu:Nat} {tM:TypeId} {J:Nat->Nat->(Nat->Prop)->World->Prop} {syn:Nat->Prop}
def Q0(ZZ:syn Mu)(hJ:∀c0 c1 G w w',J c0 c1 G w->(∀b,G b->w'.heap[b]?=w.heap[b]?)->J c0 c1 G w'):kF (Kq Mu tM N J) 2 syn (MInv N) (nj N) mlt where
 wf:=(Prod.lex Nat.lt_wfRel Nat.lt_wfRel).wf
 spawn:= λh hj hn ho=>QY h hj hn ho
 move:= λh hk hx _ hm=>UU h hk hx hm
 fits:= λh hk hx=>h.fits hk hx Mu tM J
 stay:= λ{j ψ s k x o s'}h hk hx hb hw hm l y hl hne hy hyb=>⟨hyb.1,UX h hk hx hb (λe=>by have hw:(match x.l.pc with | .us=>true|_=>false)=false:=hw;rw[e]at hw;cases hw) hm hyb.2⟩
 kinds:= λx=>by show x.l.pc.kind≠_∧x.l.pc.kind≠_∧x.l.pc.kind≠_;cases x.l.pc<;>simp[Aq.kind]
 iD:= λ{j ψ s k x o s'}h hk hx hm=>by
  have hk2:k<2:=by have :=h.j2;omega
  have nb:=FU hk2 hx h.reach;have hxo:=(h.some_ k x hk2 hx).2.2.2.2.2;show Kind.iD x.l.pc.deaf x.l.pc.kind=_;cases hm with
  |la hp hr=>exact((Cy _ hr (nb _ hr)).2.2.2.2.2.1 (by rw[hp];simp) (by rw[hp];simp)).symm
  |ur hp hr=>exact((Cy _ hr (nb _ hr)).2.2.2.2.2.1 (by rw[hp];simp) (by rw[hp];simp)).symm
  |more hc=>rfl
  |last hc=>rfl
  |go hp hr=>exact((Cy _ hr (nb _ hr)).2.2.2.2.2.1 hp.2.2.1 hp.2.2.2).symm
 plain:= λ{j ψ s k x o s'}h hk hx hm hpl=>by
  have hpl:x.l.pc.kind.plain=true:=hpl;cases hm with
  |la hp hr=>rw[hp]at hpl;cases hpl
  |ur hp hr=>rw[hp]at hpl;cases hpl
  |more hc=>exact⟨Iff.rfl, λ_ _ x=>x⟩
  |last hc=>exact⟨Iff.rfl, λ_ _ x=>x⟩
  |go hp hr=>exact⟨Iff.rfl, λ_ _ x=>x⟩
 pz:= λ{j ψ s k x o s'}h hk hx hm hkd=>by
  have hk2:k<2:=by have :=h.j2;omega
  have hkd:x.l.pc.kind=.pz:=hkd;have hpc:x.l.pc=.la:=by cases e:x.l.pc<;>rw[e]at hkd<;>first|rfl|cases hkd
  have hf:s.own=false:=by
   cases e:s.own with
   |false=>rfl
   |true=>
    exfalso;obtain⟨l,b,h1,h2,h3⟩:=h.own.1 e;have hne:l≠k:= λe=>by subst e;rw[hx]at h2;cases h2;rw[hpc]at h3;cases h3
    exact h.alone hk2 h1 hne hx h2 (UT hpc) (FV h3)
  cases hm with
  |la hp hr=>exact⟨hf, λe=>(by cases e),by show Aq.deaf _=0;rw[hp];rfl,by simp⟩
  |ur hp hr=>rw[hpc]at hp;cases hp
  |more hc=>cases hpc
  |last hc=>cases hpc
  |go hp hr=>exact absurd hpc hp.1
 pE:= λ{j ψ s k x o s'}h hk hx hm hkd=>by
  have hk2:k<2:=by have :=h.j2;omega
  have hkd:x.l.pc.kind=.pE:=hkd;have hpc:x.l.pc=.ur:=by cases e:x.l.pc<;>rw[e]at hkd<;>first|rfl|cases hkd
  have hf:s.own=true:=h.own.2 ⟨k,x,hk2,hx,hpc⟩;cases hm with
  |la hp hr=>rw[hpc]at hp;cases hp
  |ur hp hr=>exact⟨λe=>absurd (hf.symm.trans e) (by simp),by show Aq.deaf _=0;rw[hp];rfl,by simp⟩
  |more hc=>cases hpc
  |last hc=>cases hpc
  |go hp hr=>exact absurd hpc hp.2.1
 alive:= λh he=>QZ h he
 finish:= λ{ψ s}h hn=>by
  refine⟨?_,(h.none_ 0 (by omega) (hn 0 (by omega))).1 (by omega),(h.none_ 1 (by omega) (hn 1 (by omega))).1 (by omega)⟩;show s.own=false;cases e:s.own with
  |false=>rfl
  |true=>
   obtain⟨l,b,h1,h2,_⟩:=h.own.1 e;rw[hn l h1]at h2;cases h2
 EC:= λ_ _ _ h=>h
 vz:= λs w w' h hk=>Cv h (hk _ ZZ).1 (hk _ ZZ).2
 uA:= λs G w w' h hk=>hJ _ _ _ _ _ h hk
 Ir:= λj x h=>by
  have h:some x=if N j=0 then none else some ⟨lk .ld,0,0⟩:=h
  split at h
  .cases h
  .cases h;rfl
end
end
section
section
variable {T Sh:Type} {P:Program} {S:Sys T Sh}
def Eh(P:Program)(S:Sys T Sh)(X:jE T):jE T:= λi Tt own g W=>
 ∀Y:jE T,(∀i Tt own g W,X i Tt own g W->Y i Tt own g W)->(∀i Tt own g W,xI P S Y i Tt own g W->Y i Tt own g W)->Y i Tt own g W
def Eh.base{X:jE T}{i:Nat}{Tt:T}{own:Nat->Prop}{g:Goroutine}{W:World}(h:X i Tt own g W):Eh P S X i Tt own g W:= λ_ hX _=>hX _ _ _ _ _ h
def Eh.step{X:jE T}{i:Nat}{Tt:T}{own:Nat->Prop}{g:Goroutine}{W:World}(h:xI P S (Eh P S X) i Tt own g W):Eh P S X i Tt own g W:=
 λY hX hL=>hL _ _ _ _ _ (xI.mono (λ_ _ _ _ _ x=>x Y hX hL) h)
def At.upto{X:jE T}(hX:∀i Tt own g W,X i Tt own g W->xI P S (Eh P S λi Tt own g W=>X i Tt own g W∨At P S i Tt own g W) i Tt own g W){i:Nat}{Tt:T}{own:Nat->Prop}{g:Goroutine}{W:World}(h:X i Tt own g W):At P S i Tt own g W:=by
 refine⟨Eh P S λi Tt own g W=>X i Tt own g W∨At P S i Tt own g W, λi Tt own g W hu=>?_,.base (.inl h)⟩;refine hu (λi Tt own g W=>xI P S (Eh P S λi Tt own g W=>X i Tt own g W∨At P S i Tt own g W) i Tt own g W) (λi Tt own g W hx=>?_) (λi Tt own g W hl=>xI.mono (λ_ _ _ _ _ x=>.step x) hl);rcases hx with hx|hx
 .exact hX _ _ _ _ _ hx
 .exact xI.mono (λ_ _ _ _ _ x=>.base (.inr x)) hx.law
def At.up{X:jE T}{i:Nat}{Tt:T}{own:Nat->Prop}{g:Goroutine}{W:World}(h:At P S i Tt own g W):Eh P S (λi Tt own g W=>X i Tt own g W∨At P S i Tt own g W) i Tt own g W:=.base (.inr h)
end
def nR(Mu Wg:Nat)(tM ty:TypeId)(N:Nat->Nat)(J:Nat->Nat->(Nat->Prop)->World->Prop)(ro:Nat->Prop)(Anch:(Nat->Prop)->Goroutine->World->Prop):Bq LT MS where
 body:=Kq Mu tM N J
 N:=2
 ty:=ty
 Wg:=Wg
 syn:= λb=>b=Mu∨b=Wg
 ro:=ro
 pt:= λ_=>False
 cl:= λ_ _ _=>False
 Dp:= λ_ _ _ _=>True
 Anch:=Anch
section
variable {Mu Wg:Nat} {tM ty:TypeId} {N:Nat->Nat} {J:Nat->Nat->(Nat->Prop)->World->Prop} {ro:Nat->Prop} {Anch:(Nat->Prop)->Goroutine->World->Prop}
def FW(h:Mu≠Wg):ym (nR Mu Wg tM ty N J ro Anch) where
 big:=by show 2<2147483647;omega
 wg:=.inr rfl
 Ao:= λsb w w' hr hk=>by show MuAt tM Mu w' sb.mu sb.ms;have hr:MuAt tM Mu w sb.mu sb.ms:=hr;unfold MuAt at hr⊢;rw[hk Mu h];exact hr
 cl:= λ_ _ _ _ h=>h.elim
 WC:= λ_ _ _ _ h=>h.elim
 yf:= λ_ _ _ _ _ _ _ _=>trivial
end
end
section
def wY(tM:TypeId)(Mu:Nat)(w:World):Prop:=∃a b:Int,MuAt tM Mu w a b
def wZ{tM:TypeId}{Mu:Nat}{w w1:World}(h:wY tM Mu w)(hs:tV w.heap[Mu]? w1.heap[Mu]?):wY tM Mu w1:=by
 obtain⟨st,sm,h⟩:=h;obtain⟨c',e1,e2,e3⟩:=hs _ _ _ h;obtain⟨a,ha⟩:=e3 0 .i32 st rfl;obtain⟨b,hb⟩:=e3 1 .u32 sm rfl;refine⟨a,b,?_⟩;show w1.heap[Mu]?=some (.cells #[.int .i32 a,.int .u32 b] tM)
 rw[e1];congr 2;have e2:c'.size=2:=e2;apply Array.ext_getElem?;intro i
 match i with
 |0=>rw[ha];rfl
 |1=>rw[hb];rfl
 |i+2=>
  rw[Array.getElem?_eq_none (by omega)];rfl
def KM(tM:TypeId)(Mu:Nat)(Z:fO)(own:Nat->Prop)(W0 w:World):Prop:=dM Z own W0 w∧wY tM Mu w
def dB{tM:TypeId}{Mu:Nat}{Z:fO}{own:Nat->Prop}{W0 w w1:World}(hz:Z.sy Mu)(h:KM tM Mu Z own W0 w)(hr:dM Z own w w1):KM tM Mu Z own W0 w1:=
 ⟨h.1.trans hr,wZ h.2 (hr.sy _ hz)⟩
def KM.mu{tM:TypeId}{Mu:Nat}{Z:fO}{own:Nat->Prop}{W0 w:World}(h:KM tM Mu Z own W0 w):∃v:Value,w.cell? ⟨Mu,0,none⟩=some v:=by obtain⟨a,b,h⟩:=h.2;exact⟨_,h.cellSt⟩
def KM.muI{tM:TypeId}{Mu:Nat}{Z:fO}{own:Nat->Prop}{W0 w:World}(h:KM tM Mu Z own W0 w):∃v:Int,w.cell? ⟨Mu,0,none⟩=some (.int .i32 v):=by obtain⟨a,b,h⟩:=h.2;exact⟨_,h.cellSt⟩
def Yh{tM:TypeId}{a b a' b':Int}:tV (some (muBlock tM a b)) (some (muBlock tM a' b')):=by
 intro c e fr h;unfold muBlock at h;cases h;refine⟨_,rfl,rfl, λi k n hi=>?_⟩
 match i,hi with
 |0,hi=>simp at hi;obtain⟨rfl,rfl⟩:=hi;exact⟨a',rfl⟩
 |1,hi=>simp at hi;obtain⟨rfl,rfl⟩:=hi;exact⟨b',rfl⟩
 |i+2,hi=>simp at hi
def Jk(J:Nat->Nat->(Nat->Prop)->World->Prop)(k c o:Nat):(Nat->Prop)->World->Prop:=if k=0 then J c o else J o c
section
variable {P:Program} {Mu Wg:Nat} {tM ty:TypeId} {N:Nat->Nat} {J:Nat->Nat->(Nat->Prop)->World->Prop} {ro:Nat->Prop} {Anch:(Nat->Prop)->Goroutine->World->Prop}
variable {X:jE (FT LT)} {own:Nat->Prop} {g:Goroutine} {W W' W0:World} {i k c n:Nat} {l:LK}
def Mo{st sm st' sm':Int}(h:MuAt tM Mu W st sm)(h':MuAt tM Mu W' st' sm')(ha:Eff Mu Mu W W'):dS (nR Mu Wg tM ty N J ro Anch).sys W W':=by
 refine⟨ha.tape,ha.output,ha.os,ha.size, λb hb=>ha.block b (λe=>hb (.inl e)) (λe=>hb (.inl e)), λb _=>?_⟩
 by_cases e:b=Mu
 .subst e;have h1:W.heap[b]?=some (muBlock tM st sm):=h
  have h2:W'.heap[b]?=some (muBlock tM st' sm'):=h'
  rw[h1,h2];exact Yh
 .rw[ha.block b e e];exact tV.refl _
def ae2{st sm:Int}(hne:Mu≠Wg)(h:Go.ConcR.WgAt ty Wg W st sm)(ha:Eff Mu Mu W W'):Go.ConcR.WgAt ty Wg W' st sm:=by
 show W'.heap[Wg]?=_
 rw[ha.block Wg (λe=>hne e.symm) (λe=>hne e.symm)];exact h
def KM.turn{Z:fO}{st sm st' sm':Int}(hb:Beside (nR Mu Wg tM ty N J ro Anch) Z own)(hF:KM tM Mu Z own W0 W)(h:MuAt tM Mu W st sm)(h':MuAt tM Mu W' st' sm')(ha:Eff Mu Mu W W'):KM tM Mu Z own W0 W':=
 ⟨hF.1.trans ((Mo (Wg:=Wg) (ty:=ty) (N:=N) (J:=J) (ro:=ro) (Anch:=Anch) h h' ha).rely' hb),⟨_,_,h'⟩⟩
def UY{T:LT}(h:Gw P (i==0) ((nR Mu Wg tM ty N J ro Anch).Zw k) (X i (.bd k T)) own g W):On P (nR Mu Wg tM ty N J ro Anch).sys X i (.bd k T) own g W:=by unfold On;rw[aa (by show¬(false=true);simp)];exact h
def iV(hne:Mu≠Wg)(hp:l.pc≠ .la∧l.pc≠ .ur∧l.pc≠ .ue∧l.pc≠ .out)(hr:g.status=.running)(ho:g.offers=none)
 (h:∀(s:pJ MS),MuAt tM Mu W s.b.mu s.b.ms->Kn s.b.mu=true->s.b.ms<=1->(∀r∈qo l s.b.mu s.b.ms,r.1.wC=false)->
   ((l.pc=.s1∧s.b.ms=0)∧stepG P (i==0) g W=.go { g with status:=.blocked } W #[])∨
   (¬(l.pc=.s1∧s.b.ms=0)∧∃l' cg ms' g' W' es,(l',cg,ms')∈qo l s.b.mu s.b.ms∧stepG P (i==0) g W=.go g' W' es∧(l.pc=.us->mayWake P g=true)∧MuAt tM Mu W' (cg:Nat) (ms':Nat)∧Eff Mu Mu W W'∧PN (nR Mu Wg tM ty N J ro Anch).sys s l.pc.kind es∧
     Gw P (i==0) ((nR Mu Wg tM ty N J ro Anch).Zw k) (X i (.bd k ⟨l',c,n⟩)) own g' W')):
 xI P (nR Mu Wg tM ty N J ro Anch).sys X i (.bd k ⟨l,c,n⟩) own g W:=by
 refine⟨hr, λ_=>ho, λs hs hf=>?_⟩;rw[aa (by show¬(false=true);simp),aa (by show¬(false=true);simp)];obtain⟨hwg,hmu⟩:=hs;have hmu:MuAt tM Mu W s.b.mu s.b.ms:=hmu;obtain⟨⟨f1,f2,f3,_⟩,_⟩:=hf;rcases h s hmu f1 f2 f3 with⟨h1,h2⟩|⟨h1,l',cg,ms',g',W',es,h2,h3,h4,h5,h6,h7,h8⟩
 .exact .inl ⟨h1,h2⟩
 .refine .inr ⟨h1,.bd k ⟨l',c,n⟩,{ s with b:={ s.b with mu:=cg,ms:=ms' } },g',W',es,.bd (.go hp h2),h3, λhw=>h4 ?_,⟨ae2 hne hwg h6,h5⟩,Mo hmu h5 h6,h7,?_⟩
  .have hw:(match l.pc with | .us=>true|_=>false)=true:=hw;cases e:l.pc<;>rw[e]at hw<;>first|rfl|cases hw
  .have hon:On P (nR Mu Wg tM ty N J ro Anch).sys X i (.bd k ⟨l',c,n⟩) own g' W':=UY h8;show match l.pc.kind with | .pz=>_| .pE=>_| .done=>_| .join=>_|_=>_
   cases e:l.pc<;>first|exact hon|exact absurd e hp.1|exact absurd e hp.2.1
def cr(hne:Mu≠Wg)(hl:l=lk .la)(hr:g.status=.running)(ho:g.offers=none)
 (h:∀s:pJ MS,MuAt tM Mu W s.b.mu s.b.ms->s.b.c k=c->∃g',stepG P (i==0) g W=.go g' W #[⟨.mark (.acquire (muA Mu)),false,true⟩]∧∀G,(∀b,G b->¬own b)->Jk J k c (s.b.o k) G W->
    Gw P (i==0) ((nR Mu Wg tM ty N J ro Anch).Zw k) (X i (.bd k ⟨lk .ur,c,s.b.o k⟩)) (λb=>own b∨G b) g' W):
 xI P (nR Mu Wg tM ty N J ro Anch).sys X i (.bd k ⟨l,c,n⟩) own g W:=by
 subst hl;refine⟨hr, λ_=>ho, λs hs hf=>?_⟩;rw[aa (by show¬(false=true);simp),aa (by show¬(false=true);simp)];obtain⟨hwg,hmu⟩:=hs;have hmu:MuAt tM Mu W s.b.mu s.b.ms:=hmu;obtain⟨⟨f1,f2,f3,f4,f5,f6,f7,f8⟩,hj⟩:=hf;have f4:c=s.b.c k:=f4;obtain⟨g',h1,h2⟩:=h s hmu f4.symm;refine .inr ⟨(λx=>by have :=x.1;cases this),.bd k ⟨lk .ur,c,s.b.o k⟩,{ s with b:={ s.b with own:=true } },g',W,_,.bd (.la rfl (r:=(lk .ur,s.b.mu,s.b.ms)) (by simp[qo])),h1,(λhw=>by cases hw),⟨hwg,hmu⟩,dS.refl _,⟨muA Mu,?_,rfl⟩,?_⟩
 .show(if s.jn then none else some (muA Mu))=_;rw[hj];rfl
 .intro G hG hJ;refine UY (h2 G hG ?_);have hJ:J s.b.c0 s.b.c1 G W:=hJ;unfold Jk;split
  .rename_i e;subst e;rw[f4];exact hJ
  .rename_i e;rw[f4];show J (if k=0 then s.b.c1 else s.b.c0) (if k=0 then s.b.c0 else s.b.c1) G W;rw[aa e,aa e];exact hJ
def an6(hne:Mu≠Wg)(hl:l=lk .ur)(hr:g.status=.running)(ho:g.offers=none){G:Nat->Prop}(hG:∀b,G b->own b)(hJ:Jk J k (c+1) n G W)
 (h:∃g',stepG P (i==0) g W=.go g' W #[⟨.mark (.releaseMerge (muA Mu)),false,true⟩]∧Gw P (i==0) ((nR Mu Wg tM ty N J ro Anch).Zw k) (X i (.bd k ⟨lk .ud,c+1,n⟩)) (λb=>own b∧¬G b) g' W):
 xI P (nR Mu Wg tM ty N J ro Anch).sys X i (.bd k ⟨l,c,n⟩) own g W:=by
 subst hl;refine⟨hr, λ_=>ho, λs hs hf=>?_⟩;rw[aa (by show¬(false=true);simp),aa (by show¬(false=true);simp)];obtain⟨hwg,hmu⟩:=hs;have hmu:MuAt tM Mu W s.b.mu s.b.ms:=hmu;obtain⟨⟨f1,f2,f3,f4,f5,f6,f7,f8⟩,hj⟩:=hf;have f4:c=s.b.c k:=f4;have f5:n=s.b.o k:=f5 rfl;obtain⟨g',h1,h2⟩:=h;refine .inr ⟨(λx=>by have :=x.1;cases this),.bd k ⟨lk .ud,c+1,n⟩,{ s with b:={ (s.b.IG k (c+1))with mu:=s.b.mu,ms:=s.b.ms,own:=false } },g',W,_,.bd (.ur rfl (r:=(lk .ud,s.b.mu,s.b.ms)) (by simp[qo])),h1,(λhw=>by cases hw),⟨hwg,hmu⟩,dS.refl _,⟨muA Mu,?_,rfl⟩,G,hG,?_,UY h2⟩
 .show(if s.jn then none else some (muA Mu))=_;rw[hj];rfl
 .show J (s.b.IG k (c+1)).c0 (s.b.IG k (c+1)).c1 G W;unfold Jk at hJ;unfold MS.IG;split at hJ
  .rename_i e;rw[aj e];rw[f5]at hJ;show J (c+1) s.b.c1 G W;have:s.b.o k=s.b.c1:=by show(if k=0 then s.b.c1 else s.b.c0)=_;rw[aj e]
   rwa [this]at hJ
  .rename_i e;rw[aa e];rw[f5]at hJ;show J s.b.c0 (c+1) G W;have:s.b.o k=s.b.c0:=by show(if k=0 then s.b.c1 else s.b.c0)=_;rw[aa e]
   rwa [this]at hJ
def qx(N:Nat->Nat)(k c n:Nat):FT LT:=if c<N k then .bd k ⟨lk .ld,c,n⟩else .wg k .wr
def an7(hne:Mu≠Wg)(hl:l=lk .ue)(hr:g.status=.running)(ho:g.offers=none)
 (h:∃g',stepG P (i==0) g W=.go g' W #[⟨.mark .enable,false,true⟩]∧Gw P (i==0) ((nR Mu Wg tM ty N J ro Anch).Zw k) (X i (qx N k c n)) own g' W):
 xI P (nR Mu Wg tM ty N J ro Anch).sys X i (.bd k ⟨l,c,n⟩) own g W:=by
 subst hl;refine⟨hr, λ_=>ho, λs hs hf=>?_⟩;rw[aa (by show¬(false=true);simp),aa (by show¬(false=true);simp)];obtain⟨hwg,hmu⟩:=hs;have hmu:MuAt tM Mu W s.b.mu s.b.ms:=hmu;obtain⟨⟨f1,f2,f3,f4,f5,f6,f7,f8⟩,hj⟩:=hf;have f7:c<=N k:=f7;obtain⟨g',h1,h2⟩:=h;unfold qx at h2;split at h2
 .rename_i hc;exact .inr ⟨(λx=>by have :=x.1;cases this),.bd k ⟨lk .ld,c,n⟩,s,g',W,_,.bd (.more hc),h1,(λhw=>by cases hw),⟨hwg,hmu⟩,dS.refl _,rfl,UY h2⟩
 .rename_i hc;refine .inr ⟨(λx=>by have :=x.1;cases this),.wg k .wr,s,g',W,_,.wo (.last (by omega)),h1,(λhw=>by cases hw),⟨hwg,hmu⟩,dS.refl _,rfl,?_⟩;show On P (nR Mu Wg tM ty N J ro Anch).sys X i (.wg k .wr) own g' W;unfold On;rw[aa (by show¬(false=true);simp)];exact h2
end
end
end cS
namespace cS
open Go Go.Conc Go.ConcM
section
attribute [local instance] noSh
mutual
def Mq:∀v:Value,rv (λb=>b) v=v
 | .bool _=>by simp
 | .int _ _=>by simp
 | .float _ _=>by simp
 | .complex _ _ _=>by simp
 | .string _=>by simp
 | .pointer none=>by simp
 | .pointer (some a)=>by simp only[dX,ay];rfl
 | .slice none _ _=>by simp
 | .slice (some a) _ _=>by simp only[fD,ay];rfl
 | .map none=>by simp
 | .map (some r)=>by simp
 | .chan none=>by simp
 | .chan (some r)=>by simp
 | .func fn a b=>by rw[rv,Cz a,Cz b];cases fn<;>rfl
 | .nilFunc=>by simp
 | .iface t v=>by rw[rv,Mq v]
 | .nilIface=>by simp
 | .agg a=>by rw[rv,Cz a]
 | .tuple a=>by rw[rv,Cz a]
def Cz:∀a:Array Value,LU (λb=>b) a=a
 |⟨l⟩=>by rw[LU,Q5 l]
def Q5:∀l:List Value,GY (λb=>b) l=l
 | []=>by rw[GY]
 |v::l=>by rw[GY,Mq v,Q5 l]
end
def lH(a:Array Value):a.map (rv λb=>b)=a:=by rw[<-Xq,Cz]
def ae4{F:Fit}{o:Obj}(h:oS F o):ro (λb=>b) o=o:=by
 cases o with
 |cells c e fr=>simp only[ro];rw[lH]
 |number a l=>rfl
 |map es c=>
  simp only[ro];congr 1
  have:re (λb=>b)=id:=by funext e;unfold re;rw[Mq,Mq];rfl
  rw[this,Array.map_id]
 |stringIter _ _=>rfl
 |mapIter m _ _ _=>cases m<;>rfl
 |loop l=>simp only[ro];rw[lH]
 |deferred ds=>rcases h with rfl|rfl<;>rfl
 |_=>exact h.elim
def Q6(rd:Nat->Prop)(W:World)(τ:Nat->Question->Nat)(b:Nat){o:Obj}(h:(lw rd W τ).heap[b]?=some o):∃o',W.heap[b]?=some o'∧((rd b∧o=Ws o')∨(¬rd b∧o=o')):=by
 classical
 unfold lw at h;simp only[Array.getElem?_mapIdx]at h;cases hb:W.heap[b]? with
 |none=>rw[hb]at h;cases h
 |some o'=>
  rw[hb]at h;simp only[ay,Option.some.injEq]at h;refine⟨o',rfl,?_⟩
  by_cases hr:rd b
  .rw[aj hr]at h;exact .inl ⟨hr,h.symm⟩
  .rw[aa hr]at h;exact .inr ⟨hr,h.symm⟩
def l8(rd:Nat->Prop)(W:World)(τ:Nat->Question->Nat):(lw rd W τ).heap.size=W.heap.size:=by unfold lw;simp
section
variable {P Q:Program} {S V:FuncId->Bool} {cd:Code->Bool} {main:Bool} {Z:fO} {L dR:Nat->Prop} {W0:World} {A:Nat->Bool} {R:Value->World->Prop}
noncomputable abbrev PO(L dR:Nat->Prop)(W0:World)(A:Nat->Bool):Oc:=⟨lw L W0 W0.tape,W0, λb=>b,L,dR,A⟩
structure Shut(S V:FuncId->Bool)(cd:Code->Bool)(L:Nat->Prop)(W0:World)(A:Nat->Bool):Prop where
 own:∀b o,A b=true->¬L b->W0.heap[b]?=some o->oS (FA S V cd (Bd A W0.heap.size)) o
 ro:∀b o,A b=true->L b->W0.heap[b]?=some o->∃c e fr,o=.cells c e fr∧VS (FA S V cd (Bd A W0.heap.size)) c
structure Ready(P:Program)(S V:FuncId->Bool)(cd:Code->Bool)(Z:fO)(L dR:Nat->Prop)(W0:World)(A:Nat->Bool):Prop where
 good:∀A:Nat->Bool,kL P (FA S V cd A)
 gD:iA P=true
 ja:P.globals.size<W0.heap.size
 a0:∀b,b<W0.heap.size->A b=true->(dR b∧¬L b)∨(L b∧(dR b∨Z.ro b))
 af:∀b,W0.heap.size<=b->A b=true
 own:∀b,dR b->b<W0.heap.size∧¬Z.sy b∧¬Z.ro b
 ro:∀b,Z.ro b->b<W0.heap.size
 sy:∀b,Z.sy b->b<W0.heap.size
 cl:∀b i,Z.cl b i->Z.sy b
 lL:∀b,L b->b<W0.heap.size∧(Z.ro b∨dR b)
 nm:¬Z.mute
def Ready.ground(r:Ready P S V cd Z L dR W0 A):Ground P S V cd Z (PO L dR W0 A):=by
 have hsz:=l8 L W0 W0.tape
 exact⟨r.good,r.gD,by show _<(lw L W0 W0.tape).heap.size;rw[hsz];exact r.ja, λb _=>rfl, λb hb _=>by have hb:b<(lw L W0 W0.tape).heap.size:=hb;rw[hsz]at hb;exact hb, λa b _ _ _ _ h=>h, λ_ _=>rfl, λb h=>(by cases h), λb h=>(by cases h), λb h=>(by cases h),
  λb hb hA=>by
   have hb:b<(lw L W0 W0.tape).heap.size:=hb;rw[hsz]at hb;rcases r.a0 b hb hA with h|h
   .exact .inl h.1
   .exact h.2, λb hb=>by have hb:(lw L W0 W0.tape).heap.size<=b:=hb;rw[hsz]at hb;exact r.af b hb,r.own,r.ro,r.sy,r.cl,r.lL,r.nm, λ_ _=>rfl⟩
def Ready.wr(r:Ready P S V cd Z L dR W0 A)(hs:Shut S V cd L W0 A):WR (FA S V cd (Bd A (lw L W0 W0.tape).heap.size)) (λb=>b) (lw L W0 W0.tape) W0:=by
 have hsz:=l8 L W0 W0.tape;refine⟨λb hb _=>by rw[hsz]at hb;exact hb, λb o hb ho=>?_⟩;have hb:Bd A (lw L W0 W0.tape).heap.size b=true:=hb;rw[hsz]at hb⊢;obtain⟨hA,hlt⟩:=gH.1 hb;obtain⟨o',ho',hor⟩:=Q6 _ _ _ _ ho;rcases hor with⟨hr,rfl⟩|⟨hr,rfl⟩
 .obtain⟨c,e,fr,rfl,hc⟩:=hs.ro b o' hA hr ho';exact .inr (.inl ⟨rfl,c,e,(0,c.size),fr,rfl,hc,by rw[ho',lH], λi hi _ _=>⟨bg _,hi⟩⟩)
 .have rj:=hs.own b o hA hr ho';cases hc:isCells o with
  |false=>exact .inl ⟨rfl,rj,hc,by rw[ho',ae4 rj]⟩
  |true=>
   cases o with
   |cells c e fr=>exact .inr (.inl ⟨rfl,c,e,fr,fr,rfl,rj,by rw[ho',lH], λi _ h1 h2=>⟨h1,h2⟩⟩)
   |_=>cases hc
def Ready.lk(r:Ready P S V cd Z L dR W0 A)(hs:Shut S V cd L W0 A)(b:Nat)(o:Obj)(hA:A b=true)(ho:(lw L W0 W0.tape).heap[b]?=some o)(hl:¬iZ o):dR b∧¬L b:=by
 obtain⟨o',ho',hor⟩:=Q6 _ _ _ _ ho;have hlt:=(aI.1 ho').1;rcases hor with⟨hr,rfl⟩|⟨hr,rfl⟩
 .obtain⟨c,e,fr,rfl,hc⟩:=hs.ro b o' hA hr ho';exact absurd ⟨c,e,(0,c.size),rfl, λi hi=>⟨bg _,hi⟩⟩ hl
 .rcases r.a0 b hlt hA with h|h
  .exact h
  .exact absurd h.1 hr
def UZ{Stop:(Nat->Prop)->Goroutine->World->Prop}(hQ:Alike P Q)(rf:∀g,S g=true->Q.funcs[g]?=P.funcs[g]?)(r:Ready P S V cd Z L dR W0 A)(hs:Shut S V cd L W0 A){g:FuncId}(hg:S g=true){args:Array Value}(ha:VS (FA S V cd (Bd A W0.heap.size)) args)
 (kS:∀τ,Calls P g args (lw L W0 τ) λe w'=>∃v,e=.returned v∧R v w') {c:Frame} {K':List Frame}
 (lU:∀v w' f' dD W',R v w'->FH S V cd Z (PO L dR W0 A) v w' f' dD W'->Gw Q main Z Stop dD (G (c.finish (rv f' v)) K') W'):
 Gw Q main Z Stop dR (G (Frame.enter Q g args .normal) (c::K')) W0:=by
 have hsz:=l8 L W0 W0.tape
 exact EA (D:=PO L dR W0 A) (δ:=Unit) (Stop:= λ_=>Stop) hQ r.ground hg (rf g hg) (args:=args) (by show VS (FA S V cd (Bd A (lw L W0 W0.tape).heap.size)) args;rw[hsz];exact ha) (lH args).symm (r.wr hs) (r.lk hs) kS () (Oe rf)
  λhc _ _ h hf=>h.back hQ r.ground hc hf λ_=>lU
end
end
section
section
variable [Sh]
variable {P Q:Program} {S V:FuncId->Bool} {cd:Code->Bool} {main:Bool} {Z:fO} {δ:Type} {Stop:δ->(Nat->Prop)->Goroutine->World->Prop} {D:Oc} {K:List Frame} {fT:Frame} {R:Value->World->Prop} {T:Frame->World->Prop}
def Ar(P Q:Program)(S:FuncId->Bool):Prop:=∀g,S g=true->Q.funcs[g]?≠P.funcs[g]?->∀aS cs w,∃o w1,step P (lone (Frame.enter P g aS .normal) cs w)=.ended o w1
def FX{q:FuncId}{fn:Func}{why:String}(h:P.funcs[q]?=some fn)(hb:fn.body=some (.refuse why))(hq:∀g,S g=true->Q.funcs[g]?≠P.funcs[g]?->g=q):Ar P Q S:= λg hg hne aS cs w=>by
 obtain rfl:=hq g hg hne
 have key:∃o,stepG P true (G (Frame.enter P g aS .normal) cs) w=.ended o w #[]:=by unfold stepG G;simp[Frame.enter,h,hb,stepG.exec]
 obtain⟨o,e⟩:=key;exact⟨o,w,pq e⟩
def dr(P:Program)(w0:World)(fT:Frame)(T:Frame->World->Prop):Prop:=
 ∀τ,∃n fr' w',T fr' w'∧runN P n (lone fT [cS.stk] (w0.tp τ))=.next (lone fr' [cS.stk] w')
def Kt(hh:Ar P Q S)(kS:Ub P D.w0 fT R):Past P Q S V cd main Z Stop D K fT:= λt s h=>by
 exfalso;obtain⟨g,aS,hg,_,hup,hfr,hne,_⟩:=h.ZP;obtain⟨n,v,w',fr',h1,h2,h3⟩:=kS s.w.tape;have hrun:=h.run s.w.tape λ_ _ _=>rfl
 obtain⟨k,rfl⟩:=ahead hrun (λhf=>hup hf.1) h2 h3;obtain⟨o,w1,he⟩:=hh g hg hne aS (s.up++ [cS.stk]) (s.w.tp s.w.tape);rw[hfr]at hrun;rw[Nat.add_assoc,Nat.add_comm 1 k,lD,hrun]at h2;dsimp only at h2;rw[runN_ended k he]at h2;cases h2
def dg(P:Program)(w0:World)(fT:Frame)(T:Frame->World->Prop)(t:Nat)(s:St δ):Prop:=
 ∀τ:Nat->Question->Nat,(∀j q,j<s.w.drawn->τ j q=s.w.tape j q)->∀n,n<=t->∀fr' w',runN P n (lone fT [cS.stk] (w0.tp τ))=.next (lone fr' [cS.stk] w')->¬T fr' w'
def seg(hQ:Alike P Q)(G0:Ground P S V cd Z D)(hT:∀fr w,T fr w->fr.mode=.run)(hit:dr P D.w0 fT T)(hh:Ar P Q S){s0:St δ}(h0:Inv P Q S V cd main Z Stop D K fT 0 s0)
 (hstop:∀t s τ,Ba P S V cd Z D fT t s->s.up= []->T s.fr (s.w.tp τ)->Gw Q main Z (Stop s.d) s.own (G (ic s.f s.fr) K) s.W):False:=by
 classical
 have WL:∀t s,Inv P Q S V cd main Z Stop D K fT t s->∀τ:Nat->Question->Nat,(∀j q,j<s.w.drawn->τ j q=s.w.tape j q)->∀fr' w',runN P t (lone fT [cS.stk] (D.w0.tp τ))=.next (lone fr' [cS.stk] w')->¬T fr' w':=by
  intro t s h τ ag fr' w' hr hT';rw[h.run τ ag]at hr;obtain⟨e1,e2,e3⟩:=pg (Stepped.next.inj hr);subst e1 e3
  have hup:s.up= []:=by have :=congrArg List.length e2;simpa using this
  refine h.mf ?_
  rw[hup];exact hstop t s τ h.toBa hup hT'
 have far:∀(t:Nat)(s:St δ),dg P D.w0 fT T t s->∀τ:Nat->Question->Nat,(∀j q,j<s.w.drawn->τ j q=s.w.tape j q)->∃k fr' w',T fr' w'∧runN P (t+1+k) (lone fT [cS.stk] (D.w0.tp τ))=.next (lone fr' [cS.stk] w'):=by
  intro t s hd τ ag;obtain⟨n,fr',w',hT',hn⟩:=hit τ;rcases bq t n with hlt|hge
  .obtain⟨k,rfl⟩:=Nat.exists_eq_add_of_lt hlt;exact⟨k,fr',w',hT',by rw[Nat.add_right_comm];exact hn⟩
  .exact absurd hT' (hd τ ag n hge fr' w' hn)
 have nx:∀(x:{ p:Nat×St δ// Inv P Q S V cd main Z Stop D K fT p.1 p.2∧dg P D.w0 fT T p.1 p.2 }),∃y:{ p:Nat×St δ// Inv P Q S V cd main Z Stop D K fT p.1 p.2∧dg P D.w0 fT T p.1 p.2 },y.1.1=x.1.1+1∧x.1.2.w.drawn<=y.1.2.w.drawn∧∀j q,j<x.1.2.w.drawn->y.1.2.w.tape j q=x.1.2.w.tape j q:=by
  rintro⟨⟨t,s⟩,h,hd⟩;dsimp only at h hd
  have hnf:¬Fin s.fr s.up:=by
   rintro⟨hu,hm,hde⟩;obtain⟨k,fr',w',_,hn⟩:=far t s hd s.w.tape λ_ _ _=>rfl
   have hrun:=h.run s.w.tape λ_ _ _=>rfl
   have hfr:=h.stk.top;obtain⟨fn,c,hfn,_⟩:=(G0.good _).fit.body s.fr.fn hfr.fn;rw[Nat.add_assoc,Nat.add_comm 1 k,lD,hrun,hu]at hn;exact vw ⟨fn,hfn⟩ hfr.kind hm hde _ k fr' [] w' hn
  obtain⟨s',h1,h2,h3⟩:=h.Wv hQ G0 (λτ ag=>by obtain⟨k,fr',w',hT',hn⟩:=far t s hd τ ag;exact⟨k,fr',w',⟨λch e=>(by rw[hT _ _ hT']at e;cases e),hn⟩⟩) hnf
  rcases h1 with h1|h1
  .refine⟨⟨(t+1,s'),h1, λτ ag n hn fr' w' hr=>?_⟩,rfl,h2,h3⟩;rcases bq t n with hlt|hge
   .obtain rfl:n=t+1:=Nat.le_antisymm hn hlt;exact WL _ _ h1 τ ag fr' w' hr
   .exact hd τ (λj q hj=>(ag j q (aK hj h2)).trans (h3 j q hj)) n hge fr' w' hr
  .exfalso;obtain⟨g,aS,hg,_,hup,hfr,hne,_⟩:=h1.ZP;obtain⟨k,fr',w',_,hn⟩:=far t s hd s'.w.tape h3;have hrun:=h1.run s'.w.tape λ_ _ _=>rfl
   rw[lD,hrun]at hn;dsimp only at hn;cases k with
   |zero=>
    simp only[runN]at hn;have :=congrArg List.length (pg (Stepped.next.inj hn)).2.1;simp at this;exact hup this
   |succ k=>
    obtain⟨o,w1,he⟩:=hh g hg hne aS (s'.up++ [cS.stk]) (s'.w.tp s'.w.tape);rw[hfr,runN_ended k he]at hn;cases hn
 let seq:(i:Nat)->{ p:Nat×St δ// Inv P Q S V cd main Z Stop D K fT p.1 p.2∧dg P D.w0 fT T p.1 p.2 }:= λi=>Nat.rec ⟨(0,s0),h0, λτ ag n hn fr' w' hr=>by obtain rfl:n=0:=Nat.le_zero.1 hn;exact WL _ _ h0 τ ag fr' w' hr⟩ (λ_ x=>(nx x).choose) i
 have hlt:∀i,(seq (i+1)).1.1=(seq i).1.1+1:= λi=>(nx (seq i)).choose_spec.1
 have hd:∀i,(seq i).1.2.w.drawn<=(seq (i+1)).1.2.w.drawn:= λi=>(nx (seq i)).choose_spec.2.1
 have ht:∀i j q,j<(seq i).1.2.w.drawn->(seq (i+1)).1.2.w.tape j q=(seq i).1.2.w.tape j q:= λi=>(nx (seq i)).choose_spec.2.2
 have hge:∀i,(seq i).1.1=i:=by
  intro i
  induction i with
  |zero=>rfl
  |succ i ih=>rw[hlt,ih]
 have hdd:∀d t,(seq t).1.2.w.drawn<=(seq (t+d)).1.2.w.drawn:=by
  intro d
  induction d with
  |zero=>intro t;exact aJ _
  |succ d ih=>intro t;exact aS (ih t) (hd (t+d))
 have yb:∀d t j q,j<(seq t).1.2.w.drawn->(seq (t+d)).1.2.w.tape j q=(seq t).1.2.w.tape j q:=by
  intro d
  induction d with
  |zero=>intro t j q _;rfl
  |succ d ih=>
   intro t j q hj;exact(ht (t+d) j q (aK hj (hdd d t))).trans (ih t j q hj)
 let τ:Nat->Question->Nat:= λj q=>if h:∃t,j<(seq t).1.2.w.drawn then(seq h.choose).1.2.w.tape j q else 0
 have Im:∀t j q,j<(seq t).1.2.w.drawn->τ j q=(seq t).1.2.w.tape j q:=by
  intro t j q hj;have h:∃t,j<(seq t).1.2.w.drawn:=⟨t,hj⟩;have e:τ j q=(seq h.choose).1.2.w.tape j q:=dif_pos h;rw[e];have hc:=h.choose_spec;generalize h.choose=u at hc;rcases Nat.le_total t u with hle|hle
  .obtain⟨d,rfl⟩:=Nat.exists_eq_add_of_le hle;exact yb d t j q hj
  .obtain⟨d,rfl⟩:=Nat.exists_eq_add_of_le hle;exact(yb d u j q hc).symm
 obtain⟨n,fr',w',hT',hn⟩:=hit τ;exact(seq n).2.2 τ (λj q hj=>Im n j q hj) n (Nat.le_of_eq (hge n).symm) fr' w' hn hT'
def EJ(G0:Ground P S V cd Z D)(hf:jM P (FA S V cd (Bd D.A D.w0.heap.size)) fT)(hm:fT.mode=.run)(hro:fT.roundOf=none)
 (hwr:WR (FA S V cd (Bd D.A D.w0.heap.size)) D.f0 D.w0 D.W0) (hlk:∀(b:Nat)(o:Obj),D.A b=true->D.w0.heap[b]?=some o->¬iZ o->D.dR (D.f0 b)∧¬D.L (D.f0 b)) {d0:δ}
 (hn:¬Gw Q main Z (Stop d0) D.dR (G (ic D.f0 fT) K) D.W0):Inv P Q S V cd main Z Stop D K fT 0 ⟨fT,[],D.w0,D.f0,D.dR,D.W0,d0⟩:=
 ⟨⟨⟨hf,hro⟩,.inl hm,hwr,aJ _, λb _=>rfl,G0.XC, λb h1 h2=>absurd h1 (Nat.not_le.2 h2), λb c h1 h2 h3=>absurd h1 (Nat.not_le.2 (Nat.lt_trans h2 h3)),G0.a0,hlk, λb hb=>hb, λb hb=>.inl hb, λb hb=>(G0.own b hb).1,Since.refl Z D.W0, λb _=>rfl, λτ _=>rfl⟩,hn⟩
def Ba.ir{t:Nat}{s:St δ}(h:Ba P S V cd Z D fT t s)(τ:Nat->Question->Nat):FH S V cd Z D undef (s.w.tp τ) s.f s.own s.W:=
 ⟨ab9 h.wr,oQ,h.n0,h.fid,h.DY,h.Wt,h.Ez,h.img,h.lk,h.owns,h.PM,h.Wu,h.since,h.kept⟩
end
section
attribute [local instance] noSh
variable {P Q:Program} {S V:FuncId->Bool} {cd:Code->Bool} {main:Bool} {Z:fO} {L dR:Nat->Prop} {W0:World} {A:Nat->Bool} {R:Value->World->Prop} {T:Frame->World->Prop}
def ae6(d:Deferred):rd (λb=>b) d=d:=by
 obtain⟨t,a⟩:=d;unfold rd;simp only[lH];cases t<;>try simp only[lH]
 .rename_i fn cap;cases fn<;>rfl
def Yi(i:Item):ql (λb=>b) i=i:=by cases i<;>rfl
def Q7(fr:Frame):ic (λb=>b) fr=fr:=by
 obtain⟨a,b,c,d,e,f,g⟩:=fr;unfold ic;simp only[lH];congr 1
 .rw[show ql (λb=>b)=id from funext Yi,List.map_id]
 .rw[show rd (λb=>b)=id from funext ae6,List.map_id]
 .simp
def Yj{Stop:(Nat->Prop)->Goroutine->World->Prop}{fT:Frame}{K:List Frame}(hQ:Alike P Q)(hh:Ar P Q S)(r:Ready P S V cd Z L dR W0 A)(hs:Shut S V cd L W0 A)(hf:jM P (FA S V cd (Bd A W0.heap.size)) fT)(hm:fT.mode=.run)(hro:fT.roundOf=none)(hT:∀fr w,T fr w->fr.mode=.run)
 (hit:∀τ,∃n fr' w',T fr' w'∧runN P n (lone fT [cS.stk] (lw L W0 τ))=.next (lone fr' [cS.stk] w'))
 (lU:∀fr w f dD W',T fr w->jM P (FA S V cd (Bd A w.heap.size)) fr->FH S V cd Z (PO L dR W0 A) undef w f dD W'->Gw Q main Z Stop dD (G (ic f fr) K) W'):
 Gw Q main Z Stop dR (G fT K) W0:=by
 have hsz:=l8 L W0 W0.tape;apply bn;intro hn
 refine seg (D:=PO L dR W0 A) (δ:=Unit) (Stop:= λ_=>Stop) (main:=main) (K:=K) (fT:=fT) (T:=T) hQ r.ground hT hit hh (EJ (d0:=()) r.ground (by show jM P (FA S V cd (Bd A (lw L W0 W0.tape).heap.size)) fT;rw[hsz];exact hf) hm hro (r.wr hs) (r.lk hs) (by show¬Gw Q main Z Stop dR (G (ic (λb=>b) fT) K) W0;rw[Q7];exact hn))
  λt s τ h hup hT'=>lU s.fr (s.w.tp τ) s.f s.own s.W hT' h.stk.top (h.ir τ)
def U0{Stop:(Nat->Prop)->Goroutine->World->Prop}{fT c:Frame}{K':List Frame}(hQ:Alike P Q)(hh:Ar P Q S)(r:Ready P S V cd Z L dR W0 A)(hs:Shut S V cd L W0 A)(hf:jM P (FA S V cd (Bd A W0.heap.size)) fT)(hm:fT.mode=.run)(hro:fT.roundOf=none)
 (kS:∀τ,∃n v w' fr',R v w'∧runN P n (lone fT [cS.stk] (lw L W0 τ))=.next (lone fr' [cS.stk] w')∧fr'.leaving P w' (.returned v))
 (lU:∀v w' f' dD W',R v w'->FH S V cd Z (PO L dR W0 A) v w' f' dD W'->Gw Q main Z Stop dD (G (c.finish (rv f' v)) K') W'):
 Gw Q main Z Stop dR (G fT (c::K')) W0:=by
 have hsz:=l8 L W0 W0.tape;apply bn;intro hn;have hc:Ub P (PO L dR W0 A).w0 fT R:=kS
 exact fj (D:=PO L dR W0 A) (δ:=Unit) (Stop:= λ_=>Stop) (main:=main) (K:=c::K') (fT:=fT) (R:=R) hQ r.ground hc
  (EJ (d0:=()) r.ground (by show jM P (FA S V cd (Bd A (lw L W0 W0.tape).heap.size)) fT;rw[hsz];exact hf) hm hro (r.wr hs) (r.lk hs) (by show¬Gw Q main Z Stop dR (G (ic (λb=>b) fT) (c::K')) W0;rw[Q7];exact hn))
  (Kt hh hc) λh vg=>h.back hQ r.ground hc vg λ_=>lU
end
end
section
variable [Sh]
section
variable {P:Program} {S V:FuncId->Bool} {A A':Nat->Bool} {c1 c2:Code->Bool}
def yx:eP P ⟨S,A,c1,V⟩=eP P ⟨S,A',c2,V⟩:=by funext x;cases x<;>rfl
def Q8:sI P ⟨S,A,c1,V⟩=sI P ⟨S,A',c2,V⟩:=by funext c;unfold sI;rw[yx (A':=A') (c2:=c2)];cases c.callee<;>rfl
def Yk:jg P ⟨S,A,c1,V⟩=jg P ⟨S,A',c2,V⟩:=by
 funext o;unfold jg;rw[yx (A':=A') (c2:=c2),Q8 (A':=A') (c2:=c2)];cases o<;>try rfl
 rename_i fn a b;cases fn<;>first|rfl|simp
def Q9:codeOk P ⟨S,A,c1,V⟩=codeOk P ⟨S,A',c2,V⟩:=by
 funext c
 induction c with
 |region _ ops _=>unfold codeOk;rw[Yk (A':=A') (c2:=c2)]
 |seq a b ha hb=>unfold codeOk;rw[ha,hb]
 |cond x a b ha hb=>unfold codeOk;rw[yx (A':=A') (c2:=c2),ha,hb]
 |block _ c h=>unfold codeOk;exact h
 |loop c h=>unfold codeOk;exact h
 |scope c h=>unfold codeOk;exact h
 |rangeFunc x _ a b ha hb=>unfold codeOk;rw[yx (A':=A') (c2:=c2),ha,hb]
 |_=>rfl
def EK(P:Program)(S V:FuncId->Bool)(g:FuncId):Bool:=
 match P.funcs[g]? with
 |none=>false
 |some fn=>match fn.body with
  |none=>false
  |some c=>!(fn.name== "runtime.NumGoroutine")&&codeOk P ⟨S, λ_=>false, λ_=>false,V⟩ c
def fe(P:Program)(S V:FuncId->Bool):Code->Bool:=codeOk P ⟨S, λ_=>false, λ_=>false,V⟩
def Mr(h:∀g,S g=true->EK P S V g=true)(hV:∀g,V g=true->S g=true)(A:Nat->Bool):kL P (FA S V (fe P S V) A):=by
 refine⟨⟨λg hg=>?_,hV⟩, λc=>?_⟩
 .have :=h g hg;unfold EK at this;split at this
  .cases this
  .rename_i fn hfn;split at this
   .cases this
   .rename_i c hc;rw[bB]at this;exact⟨fn,c,hfn,hc,by simpa using this.1,this.2⟩
 .exact congrFun Q9 c
end
end
section
attribute [local instance] noSh
def Mt(L:Nat->Prop)(W:World)(τ:Nat->Question->Nat)(b o:Nat):(lw L W τ).cell? ⟨b,o,none⟩=W.cell? ⟨b,o,none⟩:=by
 classical
 unfold World.cell? lw;simp only[Array.getElem?_mapIdx];cases hb:W.heap[b]? with
 |none=>rfl
 |some x=>
  simp only[ay]
  by_cases h:L b
  .rw[aj h];cases x<;>rfl
  .rw[aa h]
def EL{f:Nat->Nat}{c:Array Value}(h:∀x∈c,eF x=true):c.map (rv f)=c:=by
 have:c.map (rv f)=c.map id:=Array.map_congr_left λx hx=>(iP (F:=⟨λ_=>false, λ_=>false, λ_=>false, λ_=>false⟩) (h x hx)).1
 rw[this,Array.map_id]
structure Kept(Z:fO)(own:Nat->Prop)(W:World)(dD:Nat->Prop)(W':World):Prop where
 rely:dM Z own W W'
 sub:∀b,own b->dD b
 new:∀b,dD b->own b∨(W.heap.size<=b∧b<W'.heap.size)
structure Made(n:Nat)(w':World)(f':Nat->Nat)(dD:Nat->Prop)(W':World):Prop where
 old:∀b,b<n->f' b=b
 ge:∀b,n<=b->b<w'.heap.size->n<=f' b∧f' b<W'.heap.size∧dD (f' b)
 blk:∀b c e fr,n<=b->w'.heap[b]?=some (.cells c e fr)->∃fr',W'.heap[f' b]?=some (.cells (c.map (rv f')) e fr')
 cell:∀b o v,n<=b->w'.cell? ⟨b,o,none⟩=some v->W'.cell? ⟨f' b,o,none⟩=some (rv f' v)
 frz:∀b o,n<=b->(∃v,w'.cell? ⟨b,o,none⟩=some v)->w'.frozen? ⟨b,o,none⟩=false->W'.frozen? ⟨f' b,o,none⟩=false
section
variable {P:Program} {S:FuncId->Bool} {main:Bool} {Z:fO} {own:Nat->Prop} {W:World} {As:Nat->Prop} {R:Value->World->Prop}
open Classical in
noncomputable def iL(As:Nat->Prop)(n:Nat):Nat->Bool:= λb=>decide (As b∨n<=b)
def Z4(P:Program)(S:FuncId->Bool)(As:Nat->Prop)(n:Nat)(c:Array Value):Prop:=VS (FA S S (fe P S S) (Bd (iL As n) n)) c
def rJ{Stop:(Nat->Prop)->Goroutine->World->Prop}(good:∀A:Nat->Bool,kL P (FA S S (fe P S S) A))(gD:iA P=true)(ja:P.globals.size<W.heap.size)
 (hAs:∀b,As b->own b∨Z.ro b) (hin:∀b o,As b->W.heap[b]?=some o->∃c e fr,o=.cells c e fr∧Z4 P S As W.heap.size c)
 (hown:∀b,own b->b<W.heap.size∧¬Z.sy b∧¬Z.ro b) (hro:∀b,Z.ro b->b<W.heap.size) (hsy:∀b,Z.sy b->b<W.heap.size) (hcl:∀b i,Z.cl b i->Z.sy b) (hnm:¬Z.mute)
 {g:FuncId} (hg:S g=true) {args:Array Value} (ha:Z4 P S As W.heap.size args)
 (kS:∀w,w.heap.size=W.heap.size->(∀b o,w.cell? ⟨b,o,none⟩=W.cell? ⟨b,o,none⟩)->Calls P g args w λe w'=>∃v,e=.returned v∧R v w') {c:Frame} {K':List Frame}
 (lU:∀v w' f' dD W',R v w'->Kept Z own W dD W'->Made W.heap.size w' f' dD W'->Gw P main Z Stop dD (G (c.finish (rv f' v)) K') W'):
 Gw P main Z Stop own (G (Frame.enter P g args .normal) (c::K')) W:=by
 classical
 have hlt:∀b,As b->b<W.heap.size:= λb hb=>(hAs b hb).elim (λh=>(hown b h).1) (hro b)
 have hA1:∀b,b<W.heap.size->iL As W.heap.size b=true->As b:= λb hb h=>by have :=of_decide_eq_true h;exact this.resolve_right (by omega)
 refine UZ (Q:=P) (S:=S) (V:=S) (cd:=fe P S S) (L:= λb=>own b∨Z.ro b) (dR:=own) (A:=iL As W.heap.size) (R:=R) (Alike.refl P) (λ_ _=>rfl)
  ⟨good,gD,ja, λb hb hA=>.inr ⟨hAs b (hA1 b hb hA),hAs b (hA1 b hb hA)⟩, λb hb=>decide_eq_true (.inr hb),hown,hro,hsy,hcl, λb hb=>hb.elim (λh=>⟨(hown b h).1,.inr h⟩) (λh=>⟨hro b h,.inl h⟩),hnm⟩
  ⟨λb o hA hL ho=>?_, λb o hA hL ho=>?_⟩ hg ha (λτ=>kS _ (l8 _ _ _) λb o=>Mt _ _ _ b o) λv w' f' dD W' hR hb=>?_
 .exfalso;have hb:=(aI.1 ho).1;exact hL (hAs b (hA1 b hb hA))
 .have hb:=(aI.1 ho).1;obtain⟨c,e,fr,h1,h2⟩:=hin b o (hA1 b hb hA) ho;exact⟨c,e,fr,h1,h2⟩
 .have hsz:=l8 (λb=>own b∨Z.ro b) W W.tape;have hsz':(PO (λb=>own b∨Z.ro b) own W (iL As W.heap.size)).w0.heap.size=W.heap.size:=hsz;have hbd:∀b,W.heap.size<=b->b<w'.heap.size->Bd (iL As W.heap.size) w'.heap.size b=true:= λb h1 h2=>gH.2 ⟨decide_eq_true (.inr h1),h2⟩
  refine lU v w' f' dD W' hR ⟨⟨hb.since.tape,hb.since.out,hb.since.os,hb.since.size, λb h=>hb.kept b (.inl h), λb h=>hb.kept b (.inr h),hb.since.sy,hb.since.cl⟩,hb.owns, λb h=>(hb.PM b h).imp id λh2=>⟨h2,hb.Wu b h⟩⟩
   ⟨λb h=>hb.fid b (by rw[hsz'];exact h), λb h1 h2=>?_, λb c e fr h1 hx=>?_, λb o v h1 hc=>?_, λb o h1 hc hf=>?_⟩
  .have e1:=hb.Wt b (by rw[hsz'];exact h1) h2;refine⟨e1,hb.DY b h2 rfl,(hb.img b h2 (decide_eq_true (.inr h1))).resolve_right λx=>?_⟩;have :=hro _ x;have e1:W.heap.size<=f' b:=e1;omega
  .have h2:=(aI.1 hx).1;rcases hb.wr.blk b _ (hbd b h1 h2) hx with⟨_,_,k3,_⟩|⟨_,c',e',qh,fr',k1,k2,k3,_⟩|⟨k1,_⟩
   .cases k3
   .cases k1;exact⟨fr',k3⟩
   .cases k1
  .unfold World.cell? at hc;cases hx:w'.heap[b]? with
   |none=>simp only[hx]at hc;cases hc
   |some x=>
    have h2:=(aI.1 hx).1;simp only[hx]at hc;rcases hb.wr.blk b x (hbd b h1 h2) hx with⟨_,_,k3,k4⟩|⟨_,c,e,fr,fr',rfl,k2,k3,_⟩|⟨k1,_⟩
    .cases x<;>first|(cases hc;done)|skip
     cases k3
    .unfold World.cell?;simp only[k3];have hc:c[o]?=some v:=hc
     show(c.map (rv f'))[o]?=_
     rw[aG,hc];rfl
    .cases k1
  .obtain⟨v,hc⟩:=hc;unfold World.cell? at hc;unfold World.frozen? at hf⊢;cases hx:w'.heap[b]? with
   |none=>simp only[hx]at hc;cases hc
   |some x=>
    have h2:=(aI.1 hx).1;simp only[hx]at hc hf;rcases hb.wr.blk b x (hbd b h1 h2) hx with⟨_,_,k3,k4⟩|⟨_,c,e,fr,fr',rfl,k2,k3,k4⟩|⟨k1,_⟩
    .cases x<;>first|(cases hc;done)|skip
     cases k3
    .simp only[k3];have hc:c[o]?=some v:=hc
     have ho:=(aI.1 hc).1;have k5:=k4 o ho;simp only[Bool.and_eq_false_iff,decide_eq_false_iff_not]at hf⊢
     by_cases hq:fr'.1<=o∧o<fr'.2
     .have :=k5 hq.1 hq.2;omega
     .omega
    .cases k1
end
end
section
attribute [local instance] noSh
def U1(L:Nat->Prop)(W:World)(τ:Nat->Question->Nat)(b:Nat)(h:¬L b):(lw L W τ).heap[b]?=W.heap[b]?:=by
 classical
 unfold lw;simp only[Array.getElem?_mapIdx];cases hb:W.heap[b]? with
 |none=>rfl
 |some x=>simp only[ay,aa h]
def Oz{P:Program}{f:FuncId}{fn:Func}{c:Code}{a:Act}{w:World}{R:Value->World->Prop}(hf:P.funcs[f]?=some fn)(h:c.wp P (bodyPost P fn λe w'=>∃v,e=.returned v∧R v w') a w)(cs:List Frame):
 ∃n v w' fr',R v w'∧runN P n (lone ((base f).at a [.code c]) cs w)=.next (lone fr' cs w')∧fr'.leaving P w' (.returned v):=by
 obtain⟨e,a',w',hq,harr⟩:=h (base f) [] cs;cases e with
 |normal=>
  obtain⟨hd,v,hr,v',e1,hR⟩:=hq;cases e1;obtain⟨n,hn⟩:=Steps.trans harr (.one step_end);exact⟨n,v,w',_,hR,hn,rfl,hd,rfl,fn,hf,hr⟩
 |ret=>
  obtain⟨hd,v,hr,v',e1,hR⟩:=hq;cases e1;obtain⟨todo,n,hn⟩:=harr;exact⟨n,v,w',_,hR,hn,rfl,hd,rfl,fn,hf,hr⟩
 |panic chain=>obtain⟨_,v,e1,_⟩:=hq;cases e1
 |exit id=>exact hq.elim
 |goto l=>exact hq.elim
 |outgrown=>obtain⟨v,e1,_⟩:=hq;cases e1
structure ae7(X:Nat->Prop)(Z:fO)(own:Nat->Prop)(W:World)(dD:Nat->Prop)(W':World):Prop where
 tape:W'.tape=W.tape
 out:W'.output=W.output
 os:OsLater W.os W'.os
 size:W.heap.size<=W'.heap.size
 kept:∀b,own b∨Z.ro b->¬X b->W'.heap[b]?=W.heap[b]?
 sub:∀b,own b->dD b
 new:∀b,dD b->own b∨(W.heap.size<=b∧b<W'.heap.size)
 lt:∀b,dD b->b<W'.heap.size
section
variable {P Q:Program} {S:FuncId->Bool} {main:Bool} {Z:fO} {own X:Nat->Prop} {W:World} {As:Nat->Prop} {R:Value->World->Prop}
def OA{Stop:(Nat->Prop)->Goroutine->World->Prop}(hQ:Alike P Q)(hh:Ar P Q S)(good:∀A:Nat->Bool,kL P (FA S S (fe P S S) A))(gD:iA P=true)(ja:P.globals.size<W.heap.size)
 (hAs:∀b,As b->own b∨Z.ro b) (hX:∀b,X b->own b) (hin:∀b o,As b->W.heap[b]?=some o->∃c e fr,o=.cells c e fr∧Z4 P S As W.heap.size c)
 (hown:∀b,own b->b<W.heap.size∧¬Z.sy b∧¬Z.ro b) (hro:∀b,Z.ro b->b<W.heap.size) (hsy:∀b,Z.sy b->b<W.heap.size) (hcl:∀b i,Z.cl b i->Z.sy b) (hnm:¬Z.mute)
 {g:FuncId} (hg:S g=true) {fn:Func} (hfn:P.funcs[g]?=some fn) {code:Code} (hc:fe P S S code=true) {a:Act} (hd:a.defers= []) (ha:Z4 P S As W.heap.size a.tmps)
 (kS:∀w,w.heap.size=W.heap.size->(∀b o,w.cell? ⟨b,o,none⟩=W.cell? ⟨b,o,none⟩)->(∀b,X b->w.heap[b]?=W.heap[b]?)->code.wp P (bodyPost P fn λe w'=>∃v,e=.returned v∧R v w') a w) {c:Frame} {K':List Frame}
 (lU:∀v w' f' dD W',R v w'->(∀b,b<W.heap.size->f' b=b)->ae7 X Z own W dD W'->Gw Q main Z Stop dD (G (c.finish (rv f' v)) K') W'):
 Gw Q main Z Stop own (G ((base g).at a [.code code]) (c::K')) W:=by
 classical
 have hlt:∀b,As b->b<W.heap.size:= λb hb=>(hAs b hb).elim (λh=>(hown b h).1) (hro b)
 have hA1:∀b,b<W.heap.size->iL As W.heap.size b=true->As b:= λb hb h=>by have :=of_decide_eq_true h;exact this.resolve_right (by omega)
 have at6:∀b,Z.ro b->¬X b:= λb h1 h2=>(hown b (hX b h2)).2.2 h1
 refine U0 (P:=P) (Q:=Q) (S:=S) (V:=S) (cd:=fe P S S) (L:= λb=>(own b∨Z.ro b)∧¬X b) (dR:=own) (A:=iL As W.heap.size) (R:=R) hQ hh
  ⟨good,gD,ja, λb hb hA=>?_, λb hb=>decide_eq_true (.inr hb),hown,hro,hsy,hcl, λb hb=>hb.1.elim (λh=>⟨(hown b h).1,.inr h⟩) (λh=>⟨hro b h,.inl h⟩),hnm⟩
  ⟨λb o hA hL ho=>?_, λb o hA hL ho=>?_⟩ ⟨hg,ha, λi hi=>?_, λd hd'=>?_,rfl, λl hl=>?_⟩ rfl rfl (λτ=>Oz hfn (kS _ (l8 _ _ _) (λb o=>Mt _ _ _ b o) λb hb=>U1 _ _ _ _ λh=>h.2 hb) _) λv w' f' dD W' hR hb=>?_
 .by_cases hx:X b
  .exact .inl ⟨hX b hx, λh=>h.2 hx⟩
  .exact .inr ⟨⟨hAs b (hA1 b hb hA),hx⟩,hAs b (hA1 b hb hA)⟩
 .have hb:=(aI.1 ho).1;obtain⟨c,e,fr,rfl,h2⟩:=hin b o (hA1 b hb hA) ho;exact h2
 .have hb:=(aI.1 ho).1;obtain⟨c,e,fr,h1,h2⟩:=hin b o (hA1 b hb hA) ho;exact⟨c,e,fr,h1,h2⟩
 .have hi:i∈ [Item.code code]:=hi;rw[aR]at hi;subst hi;exact hc
 .have hd':d∈a.defers:=hd';rw[hd]at hd';cases hd'
 .cases hl
 .have hsz:=l8 (λb=>(own b∨Z.ro b)∧¬X b) W W.tape;have hsz':(PO (λb=>(own b∨Z.ro b)∧¬X b) own W (iL As W.heap.size)).w0.heap.size=W.heap.size:=hsz;exact lU v w' f' dD W' hR (λb h=>hb.fid b (by rw[hsz'];exact h)) ⟨hb.since.tape,hb.since.out,hb.since.os,hb.since.size, λb h1 h2=>hb.kept b ⟨h1,h2⟩,hb.owns, λb h=>(hb.PM b h).imp id λh2=>⟨h2,hb.Wu b h⟩,hb.Wu⟩
end
end
def vQ(P:Program)(b:Frame)(k:List Item)(cs:List Frame)(z:Code)(T:Act->World->Prop)(c:Code)(a:Act)(w:World):Prop:=
 ∃a' w',T a' w'∧Steps P (lone (b.at a (.code c::k)) cs w) (lone (b.at a' (.code z::k)) cs w')
def vQ.here{P:Program}{b:Frame}{k:List Item}{cs:List Frame}{z:Code}{T:Act->World->Prop}{a:Act}{w:World}(h:T a w):vQ P b k cs z T z a w:=⟨a,w,h,Steps.refl _ _⟩
def vQ.seq{P:Program}{b:Frame}{k:List Item}{cs:List Frame}{z x y:Code}{T:Act->World->Prop}{a:Act}{w:World}(h:x.wp P (λe a w=>e=.normal∧vQ P b k cs z T y a w) a w):vQ P b k cs z T (.seq x y) a w:=by obtain⟨e,a1,w1,⟨rfl,a2,w2,hT,hs⟩,harr⟩:=h b (.code y::k) cs;exact⟨a2,w2,hT,Steps.trans (.head step_seq harr) hs⟩
end cS
namespace cS
open Go Go.Conc Go.ConcM Go.ConcN
section
section
variable {P:Program} {main:Bool} {Z:fO} {own:Nat->Prop} {Stop:(Nat->Prop)->Goroutine->World->Prop}
variable {b:Frame} {a:Act} {kk:List Item} {cs:List Frame} {W:World} {ops:Array Oper} {i:Nat} {rest:List Nat} {o:Oper}
def yA(ho:ops[i]?=some o)(hw:Region.wanted o (yielded ops a.tmps)=true)(hk:b.kind≠ .early)
 (h:∀W1,dM Z own W W1->∃v W',(execOp a.eval o).run P W1=.ok (.value v) W'∧qK Z own W1 W'∧(∀e∈(execOp a.eval o).events P W1 #[],NY Z (grow own W1 W') e)∧
   Gw P main Z Stop (grow own W1 W') (G (b.at (a.put o.dst v) (.inRegion ops rest::kk)) cs) W'):
 Gw P main Z Stop own (G (b.at a (.inRegion ops (i::rest)::kk)) cs) W:=by
 refine Gw.xY rfl λW1 hr=>?_
 obtain⟨v,W',h1,h2,h3,h4⟩:=h W1 hr;exact⟨_,W',_,stepG_value ho hw hk h1,h2, λe he=>h3 e (mem_listed he),h4⟩
def yB{ad:Addr}{v:Value}(ho:ops[i]?=some o)(hw:Region.wanted o (yielded ops a.tmps)=true)(hk:b.kind≠ .early)(hnm:¬Z.mute)
 (hz:own ad.block∨Z.ro ad.block) (hc:W.cell? ad=some v)
 (h:∀W1,dM Z own W W1->W1.cell? ad=some v->(execOp a.eval o).run P W1=.ok (.value v) W1∧(execOp a.eval o).events P W1 #[]= #[⟨.cell ad,false,false⟩])
 (hn:∀W1,dM Z own W W1->Gw P main Z Stop own (G (b.at (a.put o.dst v) (.inRegion ops rest::kk)) cs) W1):
 Gw P main Z Stop own (G (b.at a (.inRegion ops (i::rest)::kk)) cs) W:=by
 refine yA ho hw hk λW1 hr=>?_
 have hc1:W1.cell? ad=some v:=by rw[<-hc];unfold World.cell?;rw[hz.elim (hr.own _) (hr.ro _)]
 obtain⟨h1,h2⟩:=h W1 hr hc1;refine⟨v,W1,h1,qK.refl _, λe he=>?_,by rw[jB];exact hn W1 hr⟩;rw[h2]at he;simp at he;subst he;rw[jB];exact⟨hnm,rfl,hz.elim .inl λx=>.inr (.inl ⟨x,rfl⟩)⟩
def yC{ad:Addr}{x:Value}(ho:ops[i]?=some o)(hw:Region.wanted o (yielded ops a.tmps)=true)(hk:b.kind≠ .early)(hnm:¬Z.mute)
 (hz:own ad.block) (hns:¬Z.sy ad.block)
 (h:∀W1,dM Z own W W1->(execOp a.eval o).run P W1=.ok .skip (W1.setCell ad x)∧∀e∈(execOp a.eval o).events P W1 #[],e.loc=.cell ad∧e.sync=false)
 (hn:∀W1,dM Z own W W1->Gw P main Z Stop own (G (b.at (a.put o.dst undef) (.inRegion ops rest::kk)) cs) (W1.setCell ad x)):
 Gw P main Z Stop own (G (b.at a (.inRegion ops (i::rest)::kk)) cs) W:=by
 refine Gw.xY rfl λW1 hr=>?_
 obtain⟨h1,h2⟩:=h W1 hr;have ha:=Go.Conc.aside_setCell W1 ad x
 have hg:grow own W1 (W1.setCell ad x)=own:=by funext c;apply propext;unfold grow;rw[ha.size];exact⟨λh=>h.elim id λ⟨h1,h2⟩=>by omega,.inl⟩
 refine⟨_,W1.setCell ad x,_,stepG_none ho hw hk h1,⟨ha.tape,ha.output,ha.os,Nat.le_of_eq ha.size.symm, λc hc hno _=>ha.block c λe=>hno (e ▸ hz), λc hc=>?_⟩, λe he=>?_,by rw[hg];exact hn W1 hr⟩
 .have e:=ha.block c λe=>hns (e ▸ hc)
  refine⟨by rw[e];exact tV.refl _, λi _=>?_⟩;unfold World.cell?;simp only[e]
 .obtain⟨e1,e2⟩:=h2 e (mem_listed he);obtain⟨loc,wr,sy⟩:=e;dsimp only at e1 e2;subst e1 e2;rw[hg];exact⟨hnm,rfl,.inl hz⟩
def uH{f:World->Value}{ob:Obj}(ho:ops[i]?=some o)(hw:Region.wanted o (yielded ops a.tmps)=true)(hk:b.kind≠ .early)(hnm:¬Z.mute)(hsy:∀b,Z.sy b->b<W.heap.size)
 (h:∀W1,dM Z own W W1->(execOp a.eval o).run P W1=.ok (.value (f W1)) { W1 with heap:=W1.heap.push ob }∧∀e∈(execOp a.eval o).events P W1 #[],(∃ad:Addr,e.loc=.cell ad∧ad.block=W1.heap.size∨e.loc=.obj W1.heap.size)∧e.sync=false)
 (hn:∀W1,dM Z own W W1->Gw P main Z Stop (λc=>own c∨c=W1.heap.size) (G (b.at (a.put o.dst (f W1)) (.inRegion ops rest::kk)) cs) { W1 with heap:=W1.heap.push ob }):
 Gw P main Z Stop own (G (b.at a (.inRegion ops (i::rest)::kk)) cs) W:=by
 refine yA ho hw hk λW1 hr=>?_
 obtain⟨h1,h2⟩:=h W1 hr
 have hg:grow own W1 { W1 with heap:=W1.heap.push ob }= λc=>own c∨c=W1.heap.size:=by funext c;apply propext;unfold grow;simp only[Array.size_push];exact⟨λh=>h.imp id λ⟨h1,h2⟩=>by omega, λh=>h.imp id λe=>⟨by omega,by omega⟩⟩
 have hold:∀c,c<W1.heap.size->(W1.heap.push ob)[c]?=W1.heap[c]?:= λc hc=>by rw[Array.getElem?_push_lt hc,aW hc]
 refine⟨f W1,_,h1,⟨rfl,rfl,rfl,by simp, λc hc _ _=>hold c hc, λc hc=>?_⟩, λe he=>?_,by rw[hg];exact hn W1 hr⟩
 .have e:=hold c (aK (hsy c hc) hr.size);refine⟨by rw[show({ W1 with heap:=W1.heap.push ob }:World).heap=W1.heap.push ob from rfl,e];exact tV.refl _, λi _=>?_⟩;unfold World.cell?;simp only[e]
 .obtain⟨⟨ad,e1⟩,e2⟩:=h2 e he;obtain⟨loc,wr,sy⟩:=e;dsimp only at e1 e2;subst e2;rw[hg];rcases e1 with⟨rfl,e1⟩|rfl
  .exact⟨hnm,rfl,.inl (.inr e1)⟩
  .exact⟨hnm,rfl,.inr rfl⟩
end
end
section
section
variable {P:Program} {Mu Wg:Nat} {tM ty:TypeId} {N:Nat->Nat} {J:Nat->Nat->(Nat->Prop)->World->Prop} {ro:Nat->Prop} {Anch:(Nat->Prop)->Goroutine->World->Prop}
variable {X:jE (FT LT)} {own dD mX:Nat->Prop} {g g' child:Goroutine} {W:World} {j:Nat}
def Yl(hr:g.status=.running)(ho:g.offers=none)(h1:stepG P true g W=.spawn g' child W #[])(h2:∀b,own b↔dD b∨mX b)(h3:∀b,dD b->¬mX b)
 (h4:Gw P true ((nR Mu Wg tM ty N J ro Anch).Zs (j+1)) (X 0 (.st (fV (nR Mu Wg tM ty N J ro Anch) (j+1)) (j+1))) dD g' W)
 (h5:∀k,k≠0->Gw P false ((nR Mu Wg tM ty N J ro Anch).Zw j) (X k (qx N j 0 0)) mX child W):
 xI P (nR Mu Wg tM ty N J ro Anch).sys X 0 (.st .Ct j) own g W:=by
 refine⟨hr, λ_=>ho, λs hs hf=>?_⟩;rw[aa (by show¬(false=true);simp),aj (by show true=true;rfl)]
 have hon:On P (nR Mu Wg tM ty N J ro Anch).sys X 0 (.st (fV (nR Mu Wg tM ty N J ro Anch) (j+1)) (j+1)) dD g' W:=by
  unfold On;rw[aa (by show¬(false=true);simp)]
  have hz:(nR Mu Wg tM ty N J ro Anch).sys.Z 0 (.st (fV (nR Mu Wg tM ty N J ro Anch) (j+1)) (j+1))=(nR Mu Wg tM ty N J ro Anch).Zs (j+1):=by unfold fV;split<;>rfl
  rw[hz];exact h4
 unfold qx at h5
 by_cases hN:0<N j
 .refine⟨_,.bd j ⟨lk .ld,0,0⟩,s,g',child,mX,dD,.bd ?_,h1,hs,h2,h3,hon, λk hk=>?_⟩
  .show some _=if N j=0 then none else some _
   rw[aa (by omega)]
  .have :=h5 k hk;rw[aj hN]at this;have e:(k==0)=false:=by simpa using hk
   unfold On;rw[aa (by show¬(false=true);simp),e];exact this
 .refine⟨_,.wg j .wr,s,g',child,mX,dD,.wg ?_,h1,hs,h2,h3,hon, λk hk=>?_⟩
  .show none=if N j=0 then none else some _
   rw[aj (by omega)]
  .have :=h5 k hk;rw[aa hN]at this;have e:(k==0)=false:=by simpa using hk
   unfold On;rw[aa (by show¬(false=true);simp),e];exact this
end
end
def U7{B Sb:Type}{C:Bq B Sb}{inv:Nat->(Nat->Option B)->Sb->Prop}{sb:Sb}(h:inv 0 (λ_=>none) sb)(hN:0<C.N){n:Nat}(hn:0<n):Iy C inv n (λi=>if i=0 then some (.st .Ot 0)else none) ⟨0,0,0,false, λ_=>false,sb⟩:=by
 refine⟨.Ot,0, λ_=>0, λ_=>none,rfl,hn, λk hk=>absurd hk (Nat.not_lt_zero _), λk l hk=>absurd hk (Nat.not_lt_zero _), λk hk=>absurd hk (Nat.not_lt_zero _), λk T hk=>absurd hk (Nat.not_lt_zero _), λi hi _=>aa hi,rfl, λ_=>⟨rfl,rfl,rfl,rfl⟩, λh=>(by cases h), λh=>(by cases h),
  λv h=>(by cases h), λv h=>(by cases h), λ_=>hN, λh=>(by cases h),bg _, λk hk=>absurd hk (Nat.not_lt_zero _), λ_ _=>rfl,⟨λh=>(by cases h), λh=>(by cases h)⟩,?_⟩
 have:(λk:Nat=>if k<0 then iK (none:Option (FT B))else none)= λ_=>none:=funext λk=>aa (Nat.not_lt_zero _)
 rw[this];exact h
def U8{N:Nat->Nat}:MInv N 0 (λ_=>none) ⟨0,0,0,0,false⟩:=
 ⟨by omega,IB, λk b _ h=>(by cases h), λk hk _=>⟨λh=>absurd h (Nat.not_lt_zero _), λ_=>by unfold MS.c;split<;>rfl⟩,⟨λh=>(by cases h), λ⟨_,_,_,h,_⟩=>(by cases h)⟩⟩
def iF.lt{P:Program}{Post:Value->World->Prop}{dead own:Nat->Prop}{g:Goroutine}{W:World}(hg:g.status=.running)(hoff:g.offers=none)(h:(∀b,own b->b<W.heap.size∧¬dead b)->iF P Post dead own g W):iF P Post dead own g W:=
 ⟨hg,hoff, λho W1 hr gs t sl hq=>(h ho).2.2 ho W1 hr gs t sl hq⟩
end cS
namespace cS
open Go Go.Conc Go.ConcM
section
attribute [local instance] noSh
def mZ{As:Nat->Prop}{n b:Nat}:iL As n b=true↔As b∨n<=b:=by
 classical
 exact⟨λh=>of_decide_eq_true h, λh=>decide_eq_true h⟩
section
variable {P Q:Program} {S:FuncId->Bool} {main:Bool} {Z:fO} {own:Nat->Prop} {W:World}
def FY{As:Nat->Prop}{v:Value}{w':World}{f':Nat->Nat}{dD:Nat->Prop}{W':World}(hro:∀b,Z.ro b->b<W.heap.size)
 (hb:FH S S (fe P S S) Z (PO (λb=>own b∨Z.ro b) own W (iL As W.heap.size)) v w' f' dD W'):Kept Z own W dD W'∧Made W.heap.size w' f' dD W':=by
 have hsz:=l8 (λb=>own b∨Z.ro b) W W.tape;have hsz':(PO (λb=>own b∨Z.ro b) own W (iL As W.heap.size)).w0.heap.size=W.heap.size:=hsz;have hbd:∀b,W.heap.size<=b->b<w'.heap.size->Bd (iL As W.heap.size) w'.heap.size b=true:= λb h1 h2=>gH.2 ⟨mZ.2 (.inr h1),h2⟩
 refine⟨⟨⟨hb.since.tape,hb.since.out,hb.since.os,hb.since.size, λb h=>hb.kept b (.inl h), λb h=>hb.kept b (.inr h),hb.since.sy,hb.since.cl⟩,hb.owns, λb h=>(hb.PM b h).imp id λh2=>⟨h2,hb.Wu b h⟩⟩,
  ⟨λb h=>hb.fid b (by rw[hsz'];exact h), λb h1 h2=>?_, λb c e fr h1 hx=>?_, λb o v h1 hc=>?_, λb o h1 hc hf=>?_⟩⟩
 .have e1:=hb.Wt b (by rw[hsz'];exact h1) h2;refine⟨e1,hb.DY b h2 rfl,(hb.img b h2 (mZ.2 (.inr h1))).resolve_right λx=>?_⟩;have :=hro _ x;have e1:W.heap.size<=f' b:=e1;omega
 .have h2:=(aI.1 hx).1;rcases hb.wr.blk b _ (hbd b h1 h2) hx with⟨_,_,k3,_⟩|⟨_,c',e',qh,fr',k1,k2,k3,_⟩|⟨k1,_⟩
  .cases k3
  .cases k1;exact⟨fr',k3⟩
  .cases k1
 .unfold World.cell? at hc;cases hx:w'.heap[b]? with
  |none=>simp only[hx]at hc;cases hc
  |some x=>
   have h2:=(aI.1 hx).1;simp only[hx]at hc;rcases hb.wr.blk b x (hbd b h1 h2) hx with⟨_,_,k3,k4⟩|⟨_,c,e,fr,fr',rfl,k2,k3,_⟩|⟨k1,_⟩
   .cases x<;>first|(cases hc;done)|skip
    cases k3
   .unfold World.cell?;simp only[k3];have hc:c[o]?=some v:=hc
    show(c.map (rv f'))[o]?=_
    rw[aG,hc];rfl
   .cases k1
 .obtain⟨v,hc⟩:=hc;unfold World.cell? at hc;unfold World.frozen? at hf⊢;cases hx:w'.heap[b]? with
  |none=>simp only[hx]at hc;cases hc
  |some x=>
   have h2:=(aI.1 hx).1;simp only[hx]at hc hf;rcases hb.wr.blk b x (hbd b h1 h2) hx with⟨_,_,k3,k4⟩|⟨_,c,e,fr,fr',rfl,k2,k3,k4⟩|⟨k1,_⟩
   .cases x<;>first|(cases hc;done)|skip
    cases k3
   .simp only[k3];have hc:c[o]?=some v:=hc
    have ho:=(aI.1 hc).1;have k5:=k4 o ho;simp only[Bool.and_eq_false_iff,decide_eq_false_iff_not]at hf⊢
    by_cases hq:fr'.1<=o∧o<fr'.2
    .have :=k5 hq.1 hq.2;omega
    .omega
   .cases k1
def OB{Stop:(Nat->Prop)->Goroutine->World->Prop}(hQ:Alike P Q)(hh:Ar P Q S)(good:∀A:Nat->Bool,kL P (FA S S (fe P S S) A))(gD:iA P=true)(ja:P.globals.size<W.heap.size)
 (hown:∀b,own b->b<W.heap.size∧¬Z.sy b∧¬Z.ro b) (hro:∀b,Z.ro b->b<W.heap.size) (hsy:∀b,Z.sy b->b<W.heap.size) (hcl:∀b i,Z.cl b i->Z.sy b) (hnm:¬Z.mute)
 {g:FuncId} (hg:S g=true) {code z:Code} (hc:fe P S S code=true) {a:Act} (hd:a.defers= []) (ha:Z4 P S (λ_=>False) W.heap.size a.tmps) {T:Act->World->Prop} (hTd:∀a w,T a w->a.defers= [])
 (kS:∀w,w.heap.size=W.heap.size->vQ P (base g) [] [cS.stk] z T code a w) {K:List Frame}
 (lU:∀a' w' f' dD W',T a' w'->VS (FA S S (fe P S S) (Bd (iL (λ_=>False) W.heap.size) w'.heap.size)) a'.tmps->Kept Z own W dD W'->Made W.heap.size w' f' dD W'->Gw Q main Z Stop dD (G ((base g).at ⟨a'.tmps.map (rv f'),[]⟩ [.code z]) K) W'):
 Gw Q main Z Stop own (G ((base g).at a [.code code]) K) W:=by
 classical
 have hno:∀b,b<W.heap.size->iL (λ_=>False) W.heap.size b=true->False:= λb hb h=>by
  rcases mZ.1 h with h|h
  .exact h
  .omega
 refine Yj (P:=P) (Q:=Q) (S:=S) (V:=S) (cd:=fe P S S) (L:= λb=>own b∨Z.ro b) (dR:=own) (A:=iL (λ_=>False) W.heap.size) (T:= λfr w=>∃a',fr=(base g).at a' [.code z]∧T a' w) hQ hh
  ⟨good,gD,ja, λb hb hA=>(hno b hb hA).elim, λb hb=>mZ.2 (.inr hb),hown,hro,hsy,hcl, λb hb=>hb.elim (λh=>⟨(hown b h).1,.inr h⟩) (λh=>⟨hro b h,.inl h⟩),hnm⟩
  ⟨λb o hA hL ho=>(hno b (aI.1 ho).1 hA).elim, λb o hA hL ho=>(hno b (aI.1 ho).1 hA).elim⟩ ⟨hg,ha, λi hi=>?_, λd hd'=>?_,rfl, λl hl=>?_⟩ rfl rfl (λfr w h=>?_) (λτ=>?_) λfr w f dD W' hT hf hb=>?_
 .have hi:i∈ [Item.code code]:=hi;rw[aR]at hi;subst hi;exact hc
 .have hd':d∈a.defers:=hd';rw[hd]at hd';cases hd'
 .cases hl
 .obtain⟨a',rfl,_⟩:=h;rfl
 .obtain⟨a',w',hT,n,hn⟩:=kS (lw (λb=>own b∨Z.ro b) W τ) (l8 _ _ _);exact⟨n,_,w',⟨a',rfl,hT⟩,hn⟩
 .obtain⟨a',rfl,hT⟩:=hT;obtain⟨k,m⟩:=FY hro hb
  have e:ic f ((base g).at a' [.code z])=(base g).at ⟨a'.tmps.map (rv f),[]⟩ [.code z]:=by unfold ic Frame.at;rw[hTd _ _ hT];simp[ql,base]
  rw[e];exact lU a' w f dD W' hT hf.tmps k m
end
end
end cS
namespace cS
open Go Go.Conc Go.ConcM Go.ConcN
section
variable [Sh]
def Flat(Q:Program)(q:FuncId)(v0:Value):Prop:=
 ∀(Post:Value->World->Prop)(dead own:Nat->Prop)(W:World)(c:Frame)(K:List Frame),c.mode=.run->Q.globals.size<W.heap.size->
  (∀(mJ dD:Nat->Prop)(W':World),W'.tape=W.tape->W'.output=W.output->OsLater W.os W'.os->W.heap.size<=W'.heap.size->(∀b,own b->W'.heap[b]?=W.heap[b]?)->(∀b,own b->dD b)->(∀b,dD b->own b∨W.heap.size<=b)->(∀b,dD b->b<W'.heap.size)->
    iF Q Post mJ dD (G (c.finish v0) K) W')->
  iF Q Post dead own (G (Frame.enter Q q #[] .normal) (c::K)) W
def Plain(P:Program)(q:FuncId)(v0:Value):Prop:=
 ∃m,∀(c:Frame)(cs:List Frame)(w:World),c.mode=.run->runN P (m+1) (lone (Frame.enter P q #[] .normal) (c::cs) w)=.next (lone (c.finish v0) cs w)
section
variable {P Q:Program} {S V:FuncId->Bool} {cd:Code->Bool} {D:Oc} {R:Value->World->Prop} {Post:Value->World->Prop} {q:FuncId} {v0:Value}
def OC{K:List Frame}{fT:Frame}(kS:Ub P D.w0 fT R)(hv0:∀f,rv f v0=v0)(hvs:∀F,vs F v0=true)(hq:∀g,S g=true->Q.funcs[g]?≠P.funcs[g]?->(g=q∧V g=false)∨∀aS cs w,∃o w1,step P (lone (Frame.enter P g aS .normal) cs w)=.ended o w1)(hpl:Plain P q v0)(hfl:Flat Q q v0)(tj:∀b,D.L b->D.dR b)(hgl:Q.globals.size<D.W0.heap.size)(hah:∀b,D.A b=true->Sh.hol b=false):
 Past P Q S V cd true Z0 (λdead=>iF Q Post dead) D K fT:=by
 intro t s h;obtain⟨g,aS,hg,hv,hup,hfr,hne,lr⟩:=h.ZP;rcases hq g hg hne with⟨rfl,hV⟩|hh;rotate_left
 .exfalso;obtain⟨n,v,w',fr',h1,h2,h3⟩:=kS s.w.tape;have hrun:=h.run s.w.tape λ_ _ _=>rfl;obtain⟨k,rfl⟩:=ahead hrun (λhf=>hup hf.1) h2 h3;obtain⟨o,w1,he⟩:=hh aS (s.up++ [cS.stk]) (s.w.tp s.w.tape);rw[hfr]at hrun;rw[Nat.add_assoc,Nat.add_comm 1 k,lD,hrun]at h2;dsimp only at h2;rw[runN_ended k he]at h2;cases h2
 rw[hV]at hv;obtain rfl:aS= #[]:=hv.resolve_left (by simp);obtain⟨c,up,Ug⟩:=List.exists_cons_of_ne_nil hup;have Uz:=h.stk;rw[Ug]at Uz lr;obtain⟨_,hcm,hst⟩:=Uz
 have ae9:∃W1,dM Z0 s.own s.W W1∧¬iF Q Post s.d s.own (G (Frame.enter Q g #[] .normal) (ic s.f c::(up.map (ic s.f)++K))) W1:=by apply bn;intro hx;refine lr (.stop λW1 hr=>?_);apply bn;intro hy;exact hx ⟨W1,hr,by simpa using hy⟩
 obtain⟨W1,hr,hnl⟩:=ae9
 have hex:∃(mJ dD:Nat->Prop)(W':World),(W'.tape=W1.tape∧W'.output=W1.output∧OsLater W1.os W'.os∧W1.heap.size<=W'.heap.size∧(∀b,s.own b->W'.heap[b]?=W1.heap[b]?)∧(∀b,s.own b->dD b)∧(∀b,dD b->s.own b∨W1.heap.size<=b)∧(∀b,dD b->b<W'.heap.size))∧
  ¬iF Q Post mJ dD (G ((ic s.f c).finish v0) (up.map (ic s.f)++K)) W':=by
  apply bn;intro hx;refine hnl (hfl Post s.d s.own W1 (ic s.f c) _ hcm (aK hgl (aS h.since.size hr.size)) λmJ dD W' a1 a2 a3 a4 a5 a6 a7 a8=>?_);apply bn;intro hy;exact hx ⟨mJ,dD,W',⟨a1,a2,a3,a4,a5,a6,a7,a8⟩,hy⟩
 obtain⟨mJ,dD,W',⟨a1,a2,a3,a4,a5,a6,a7,a8⟩,mr⟩:=hex;obtain⟨m,hm⟩:=hpl;have hfc:=hst.top
 have an8:(ic s.f c).finish v0=ic s.f (c.finish v0):=by have :=oZ (f:=s.f) c v0 hfc.todo;rw[hv0]at this;exact this
 rw[an8]at mr;have hsz:=hr.size
 have hback:∀b,b<s.w.heap.size->D.A b=true->W'.heap[s.f b]?=s.W.heap[s.f b]?:=by
  intro b hb hA;rcases h.img b hb hA with x|x
  .rw[a5 _ x,hr.own _ x]
  .exact x.elim
 refine⟨m,⟨c.finish v0,up,s.w,s.f,dD,W',mJ⟩,⟨⟨?_,?_,⟨λb hb hA=>?_, λb o hb ho=>?_⟩,h.n0,h.fid, λb hb hh=>?_,h.Wt,h.Ez, λb hb hA=>?_, λb o hA ho hl=>(h.lk b o hA ho hl).imp (a6 _) id, λb hb=>a6 _ (h.owns b hb), λb hb=>?_,a8,?_, λb hb=>?_, λτ Im=>?_⟩, λhgw=>mr (iF.walk hgw rfl rfl)⟩,aJ _, λ_ _ _=>rfl⟩
 .exact hst.set (hfc.finish (hvs _)) (l6 c v0)
 .exact .inl ((nO c v0).trans hcm)
 .show s.f b<W'.heap.size;have :=h.DY b hb (hah b (gH.1 hA).1);omega
 .have hb':=gH.1 hb;have :=h.wr.blk b o hb ho;show BR _ s.f b o W'.heap[s.f b]?
  rw[hback b hb'.2 hb'.1];exact this
 .show s.f b<W'.heap.size;have :=h.DY b hb hh;omega
 .exact(h.img b hb hA).imp (a6 _) id
 .rcases a7 b hb with x|x
  .exact h.PM b x
  .have :=h.since.size;exact .inr (by omega)
 .exact h.since.trans (hr.since.trans ⟨a1,a2,a3,a4, λ_ x=>x.elim, λ_ x=>x.elim, λ_ _ x=>x.elim⟩)
 .have :=h.owns b (tj b hb);show W'.heap[b]?=_
  rw[a5 b this,hr.own b this];exact h.kept b hb
 .have h1:=h.run τ Im;rw[hfr,Ug]at h1;show runN P (t+m+1) _=.next (lone (c.finish v0) (up++ [cS.stk]) (s.w.tp τ))
  rw[Nat.add_assoc,lD,h1];exact hm c (up++ [cS.stk]) (s.w.tp τ) hcm
def Inv.last(hQ:Alike P Q)(G0:Ground P S V cd Z0 D){fT:Frame}(kS:Ub P D.w0 fT R){t:Nat}{s:St (Nat->Prop)}(h:Inv P Q S V cd true Z0 (λdead=>iF Q Post dead) D [] fT t s)(hf:Fin s.fr s.up)(hmain:∀g,S g=true->Q.inits.idxOf? g=none)
 (hpost:∀v w' f' dD W',R v w'->FH S V cd Z0 D v w' f' dD W'->Post (rv f' v) W'):False:=by
 refine h.mf (.stop λW0 hr0=>iF.ret (λW1 hr=>?_) rfl rfl);replace hr:=hr0.trans hr;clear hr0;obtain⟨v,w1,f1,qm,u,fn,hR,Qx,hres,hsz,mH,hev,hback⟩:=h.toBa.leave hQ G0 kS hf hr;obtain⟨hu,hm,hd⟩:=hf;have hfr:=h.stk.top
 have hcomp:stepG Q true (G (ic s.f s.fr) (s.up.map (ic s.f)++ [])) W1=.ended (.done (rv f1 v)) qm (seen Q s.fr.fn u++ #[]):=by
  rw[hu];have m1:(ic s.f s.fr).mode=.returning:=hm;have m2:(ic s.f s.fr).defers= []:=by show s.fr.defers.map (rd s.f)= [];rw[hd];rfl
  have m3:(ic s.f s.fr).fn=s.fr.fn:=rfl;have m5:(ic s.f s.fr).kind=.normal:=hfr.kind;unfold stepG G;simp only[m1];unfold unwind;simp only[m1,m2,m3,Qx,List.map_nil,List.nil_append];rw[hres];unfold doReturn;simp only[m5,m3,hmain _ hfr.fn];rfl
 have hg:grow s.own W1 qm=s.own:=by funext x;apply propext;unfold grow;rw[hsz];exact⟨λh=>h.elim id λh=>by omega,.inl⟩
 refine⟨rv f1 v,qm,_,hcomp, λe he=>?_,hpost v w1 f1 _ qm hR hback⟩;have :=hev e he;rw[hg]at this;exact this
def Ra(hQ:Alike P Q)(hv0:∀f,rv f v0=v0)(hvs:∀F,vs F v0=true)(hq:∀g,S g=true->Q.funcs[g]?≠P.funcs[g]?->g=q∧V g=false)(hpl:Plain P q v0)(hfl:Flat Q q v0)(tj:∀b,D.L b->D.dR b)(hgl:Q.globals.size<D.W0.heap.size)
 (G0:Ground P S V cd Z0 D) (hmain:∀g,S g=true->Q.inits.idxOf? g=none) {g:FuncId} (hg:S g=true) (XI:Q.funcs[g]?=P.funcs[g]?) {args args':Array Value} (ha:VS (FA S V cd (Bd D.A D.w0.heap.size)) args) (XJ:args'=args.map (rv D.f0))
 (hwr:WR (FA S V cd (Bd D.A D.w0.heap.size)) D.f0 D.w0 D.W0) (hlk:∀(b:Nat)(o:Obj),D.A b=true->D.w0.heap[b]?=some o->¬iZ o->D.dR (D.f0 b)∧¬D.L (D.f0 b))
 (kS:∀τ,Calls P g args (D.w0.tp τ) λe w'=>∃v,e=.returned v∧R v w')
 (hpost:∀v w' f' dD W',R v w'->FH S V cd Z0 D v w' f' dD W'->Post (rv f' v) W') (dead:Nat->Prop):
 iF Q Post dead D.dR (G (Frame.enter Q g args' .normal) []) D.W0:=
 iF.walk (EA (main:=true) (K:=[]) (Stop:= λd=>iF Q Post d) hQ G0 hg XI ha XJ hwr hlk kS dead (OC (R:=R) (λτ=>by obtain⟨e,w',fr,⟨v,rfl,h1⟩,⟨n,h2⟩,_,h3⟩:=kS τ [cS.stk];exact⟨n,v,w',fr,h1,h2,h3⟩) hv0 hvs (λg h1 h2=>.inl (hq g h1 h2)) hpl hfl tj hgl G0.Uy) λhc _ _ h hf=>h.last hQ G0 hc hf hmain hpost) rfl rfl
end
end
end cS
