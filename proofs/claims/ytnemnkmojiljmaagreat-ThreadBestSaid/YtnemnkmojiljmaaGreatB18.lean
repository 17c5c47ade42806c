/- Part 18. -/
import Derived.Conc.MuStops
import Derived.Test.YtnemnkmojiljmaaGreatB16
import Derived.Test.YtnemnkmojiljmaaGreatB17
set_option maxRecDepth 100000
set_option maxHeartbeats 0
set_option linter.all false
namespace Par
open Go Go.Conc Go.ConcM Go.ConcN
section
structure LT where
 l:LK
 c:Nat
 snap:Nat
structure MS where
 mu:Nat
 ms:Nat
 c0:Nat
 c1:Nat
 own:Bool
def MS.c (s:MS) (k:Nat):Nat:=if k=0 then s.c0 else s.c1
def MS.o (s:MS) (k:Nat):Nat:=if k=0 then s.c1 else s.c0
def MS.Me (s:MS) (k c:Nat):MS:=if k=0 then { s with c0:=c } else { s with c1:=c }
def El.kind:El->Kind
 | .ld| .ud=>.disable
 | .le| .ue=>.enable
 | .t1| .t2=>.clock
 | .s1| .us=>.sem
 | .la=>.uO
 | .ur=>.uP
 |_=>.atomic
def El.deaf:El->Nat
 | .ld| .la| .ur| .ud| .out=>0
 |_=>1
def El.early:El->Bool
 | .ud| .u0| .uc| .us| .ue| .out=>false
 |_=>true
inductive Zc (N:Nat->Nat) (k:Nat):LT->MS->Option LT->MS->Prop
 |la {l c n s r} (hp:l.pc= .la) (hr:r∈lJ l s.mu s.ms):Zc N k ⟨l,c,n⟩ s (some ⟨r.1,c,s.o k⟩) { s with mu:=r.2.1,ms:=r.2.2,own:=true }
 |ur {l c n s r} (hp:l.pc= .ur) (hr:r∈lJ l s.mu s.ms):Zc N k ⟨l,c,n⟩ s (some ⟨r.1,c+1,n⟩) { (s.Me k (c+1)) with mu:=r.2.1,ms:=r.2.2,own:=false }
 |more {c n s} (hc:c<N k):Zc N k ⟨lk .ue,c,n⟩ s (some ⟨lk .ld,c,n⟩) s
 |last {c n s} (hc:c=N k):Zc N k ⟨lk .ue,c,n⟩ s none s
 |go {l c n s r} (hp:l.pc≠ .la∧l.pc≠ .ur∧l.pc≠ .ue∧l.pc≠ .out) (hr:r∈lJ l s.mu s.ms):Zc N k ⟨l,c,n⟩ s (some ⟨r.1,c,n⟩) { s with mu:=r.2.1,ms:=r.2.2 }
def NY (Mu:Nat) (tM:TypeId) (N:Nat->Nat) (J:Nat->Nat->(Nat->Prop)->World->Prop):Body LT MS where
 gq:=some (muA Mu)
 rep:= λs W=>MuAt tM Mu W s.mu s.ms
 J:= λs=>J s.c0 s.c1
 free:= λs=>s.own=false
 init:= λk o=>o=if N k=0 then none else some ⟨lk .ld,0,0⟩
 mv:=Zc N
 blk:= λb s=>b.l.pc= .s1∧s.ms=0
 wakes:= λb=>match b.l.pc with
  | .us=>true
  |_=>false
 kind:= λb=>b.l.pc.kind
 deaf:= λb=>b.l.pc.deaf
 fits:= λk b s=>L9 s.mu=true∧s.ms<=1∧(∀r∈lJ b.l s.mu s.ms,r.1.Ak=false)∧b.c=s.c k∧(b.l.pc= .ur->b.snap=s.o k)∧(b.l.pc.early=true->b.c<N k)∧b.c<=N k∧k<2
 fin:= λs=>s.c0=N 0∧s.c1=N 1
def proj:Option LT->LK
 |some b=>b.l
 |none=>lk .out
def lg (ψ:Nat->Option LT) (s:MS):LG:=⟨proj (ψ 0),proj (ψ 1),s.mu,s.ms⟩
structure MInv (N:Nat->Nat) (j:Nat) (ψ:Nat->Option LT) (s:MS):Prop where
 j2:j<=2
 reach:Reach (lg ψ s)
 some_:∀k b,k<2->ψ k=some b->k<j∧b.c=s.c k∧(b.l.pc.early=true->b.c<N k)∧b.c<=N k∧(b.l.pc= .ur->b.snap=s.o k)∧b.l.pc≠ .out
 none_:∀k,k<2->ψ k=none->(k<j->s.c k=N k)∧(j<=k->s.c k=0)
 own:s.own=true↔∃k b,k<2∧ψ k=some b∧b.l.pc= .ur
section
variable {N:Nat->Nat} {j:Nat} {ψ:Nat->Option LT} {s:MS}
theorem zI {k:Nat} (hk:k<2) {b:LT} (Hw:ψ k=some b) (h:Reach (lg ψ s)) {o:Option LT} {mu ms:Nat} {x:LK} (hr:(x,mu,ms)∈lJ b.l s.mu s.ms) (ho:proj o=x) (s':MS) (h1:s'.mu=mu) (h2:s'.ms=ms):
 Reach (lg (upd ψ k o) s')∧(b.l.DD=false->Al (lg (upd ψ k o) s')<Al (lg ψ s)):=by
 subst h1 h2 ho;obtain rfl|rfl:k=0∨k=1:=by omega
 ·have e:lg (upd ψ 0 o) s'=⟨proj o,proj (ψ 1),s'.mu,s'.ms⟩:=by unfold lg;rw [upd_same,upd_ne (by decide)]
  rw [e];have hb:(lg ψ s).a=b.l:=by unfold lg;rw [Hw];rfl
  have :=Mc h (h:=⟨proj o,proj (ψ 1),s'.mu,s'.ms⟩) (by
   unfold LG.sa;exact List.mem_map.2 ⟨_,by rw [hb];exact hr,rfl⟩)
  rw [hb] at this;exact this
 ·have e:lg (upd ψ 1 o) s'=⟨proj (ψ 0),proj o,s'.mu,s'.ms⟩:=by unfold lg;rw [upd_same,upd_ne (by decide)]
  rw [e];have hb:(lg ψ s).b=b.l:=by unfold lg;rw [Hw];rfl
  have :=Md h (h:=⟨proj (ψ 0),proj o,s'.mu,s'.ms⟩) (by
   unfold LG.sb;exact List.mem_map.2 ⟨_,by rw [hb];exact hr,rfl⟩)
  rw [hb] at this;exact this
theorem MInv.safe (h:MInv N j ψ s):(lg ψ s).safe=true:=Gx h.reach
theorem Bf {g:LG} (h:g.safe=true):g.a.Ak=false∧g.b.Ak=false∧(g.a.Ik=true->g.b.Ik=true->False)∧L9 g.mu=true∧g.ms<=1:=by
 simp only [LG.safe,bC,Bool.not_eq_true',decide_eq_true_eq] at h;obtain ⟨⟨⟨⟨⟨h1,h2⟩,h3⟩,_⟩,h5⟩,h6⟩:=h;exact ⟨h1,h2, λa b=>by rw [a,b] at h3;simp at h3,h5,h6⟩
theorem MInv.alone (h:MInv N j ψ s) {k l:Nat} {b c:LT} (hk:k<2) (hl:l<2) (hkl:l≠k) (hb:ψ k=some b) (hc:ψ l=some c) (h1:b.l.Ik=true) (h2:c.l.Ik=true):False:=by
 have hs:=(Bf h.safe).2.2.1;obtain ⟨rfl,rfl⟩|⟨rfl,rfl⟩:(k=0∧l=1)∨(k=1∧l=0):=by omega
 ·exact hs (by unfold lg;rw [hb];exact h1) (by unfold lg;rw [hc];exact h2)
 ·exact hs (by unfold lg;rw [hc];exact h2) (by unfold lg;rw [hb];exact h1)
theorem J8 {k:Nat} (hk:k<2) {b:LT} (Hw:ψ k=some b) (h:Reach (lg ψ s)):∀r∈lJ b.l s.mu s.ms,r.1.Ak=false:=by
 intro ⟨x,mu,ms⟩ hr;have :=(zI hk Hw h (o:=some ⟨x,0,0⟩) hr rfl { s with mu:=mu,ms:=ms } rfl rfl).1;have hs:=Bf (Gx this);obtain rfl|rfl:k=0∨k=1:=by omega
 ·have :=hs.1;unfold lg at this;rw [upd_same] at this;exact this
 ·have :=hs.2.1;unfold lg at this;rw [upd_same] at this;exact this
theorem MInv.fits (h:MInv N j ψ s) {k:Nat} (hk:k<j) {b:LT} (Hw:ψ k=some b) (Mu:Nat) (tM:TypeId) (J:Nat->Nat->(Nat->Prop)->World->Prop):(NY Mu tM N J).fits k b s:=by
 have hk2:k<2:=by have :=h.j2;omega
 obtain ⟨_,h1,h2,h3,h4,_⟩:=h.some_ k b hk2 Hw;have hs:=Bf h.safe;exact ⟨hs.2.2.2.1,hs.2.2.2.2,J8 hk2 Hw h.reach,h1,h4,h2,h3,hk2⟩
theorem Gy {l:LK} {mu ms:Nat}:∀r∈lJ l mu ms,r.1.Ak=false->(r.1.pc= .out->l.pc= .ue)∧(r.1.pc= .ur->l.pc= .la)∧(l.pc≠ .ur->l.pc≠ .ue->l.pc≠ .out->l.pc.early=true->r.1.pc.early=true)∧(l.pc.early=false->l.pc≠ .ue->l.pc≠ .out->r.1.pc.early=false)∧(l.pc= .ur->r.1.pc.early=false)∧
 (l.pc≠ .ue->l.pc≠ .out->r.1.pc.deaf=Kind.jG l.pc.deaf l.pc.kind)∧(l.pc≠ .us->l.pc≠ .s1->r.2.2=ms):=by
 intro r hr hb;obtain ⟨pc,old,nw,aw,sv,it,ws⟩:=l;have nb:∀{x:LK},x.Ak=false->x.pc≠ .bad:= λ{x} hx e=>by unfold LK.Ak at hx;rw [e] at hx;cases hx
 cases pc<;>simp only [lJ] at hr
 case hd=>
  simp at hr;subst hr;have hn:=nb hb;unfold uX at hn ⊢;simp only at hn ⊢;split
  ·split<;>simp [El.early,El.deaf,El.kind,Kind.jG]
  ·rename_i h;rw [aa h] at hn;exact absurd rfl hn
 all_goals
  (repeat' split at hr)<;>simp at hr<;>(try (rcases hr with hr|hr))<;>(try subst hr)<;>first
    |exact hr.elim
    |(exact absurd rfl (nb hb))
    |(simp [El.early,El.deaf,El.kind,Kind.jG,lk];done)
    |(cases ws<;>simp [El.early,El.deaf,El.kind,Kind.jG,lk];done)
    |(cases sv<;>simp [El.early,El.deaf,El.kind,Kind.jG,lk];done)
end
end
section
section
variable {N:Nat->Nat} {j:Nat} {ψ:Nat->Option LT} {s:MS}
theorem two {k l:Nat} (hk:k<2) (hl:l<2) (h:l≠k):∀m,m<2->m=k∨m=l:= λm hm=>by omega
theorem MInv.upd (h:MInv N j ψ s) {k:Nat} (hk:k<j) {x:LT} (hx:ψ k=some x) {o:Option LT} {s':MS} (hr:Reach (lg (Par.upd ψ k o) s'))
 (hc:∀l,l<2->l≠k->s'.c l=s.c l) (ho:∀l b,l<2->l≠k->ψ l=some b->b.l.pc= .ur->s'.o l=s.o l)
 (hs:∀b,o=some b->b.c=s'.c k∧(b.l.pc.early=true->b.c<N k)∧b.c<=N k∧(b.l.pc= .ur->b.snap=s'.o k)∧b.l.pc≠ .out) (hn:o=none->s'.c k=N k)
 (hown:s'.own=true↔(∃b,o=some b∧b.l.pc= .ur)∨∃l b,l<2∧l≠k∧ψ l=some b∧b.l.pc= .ur):MInv N j (Par.upd ψ k o) s':=by
 have hk2:k<2:=by have :=h.j2;omega
 refine ⟨h.j2,hr, λl b hl hb=>?_, λl hl hb=>?_,?_⟩
 ·by_cases e:l=k
  ·subst e;rw [upd_same] at hb;exact ⟨hk,hs b hb⟩
  ·rw [upd_ne e] at hb;obtain ⟨a1,a2,a3,a4,a5,a6⟩:=h.some_ l b hl hb;exact ⟨a1,by rw [hc l hl e];exact a2,a3,a4, λx=>by rw [ho l b hl e hb x];exact a5 x,a6⟩
 ·by_cases e:l=k
  ·subst e;rw [upd_same] at hb;exact ⟨λ_=>hn hb, λx=>by omega⟩
  ·rw [upd_ne e] at hb;rw [hc l hl e];exact h.none_ l hl hb
 ·rw [hown];constructor
  ·rintro (⟨b,h1,h2⟩|⟨l,b,h1,h2,h3,h4⟩)
   ·exact ⟨k,b,hk2,by rw [upd_same];exact h1,h2⟩
   ·exact ⟨l,b,h1,by rw [upd_ne h2];exact h3,h4⟩
  ·rintro ⟨l,b,h1,h2,h3⟩
   by_cases e:l=k
   ·subst e;rw [upd_same] at h2;exact .inl ⟨b,h2,h3⟩
   ·rw [upd_ne e] at h2;exact .inr ⟨l,b,h1,e,h2,h3⟩
theorem an7 {s:MS} {k c l:Nat} (h:l≠k) (hk:k<2) (hl:l<2):(s.Me k c).c l=s.c l:=by
 obtain ⟨rfl,rfl⟩|⟨rfl,rfl⟩:(k=0∧l=1)∨(k=1∧l=0):=by omega
 ·rfl
 ·rfl
theorem NZ {s:MS} {k c:Nat} (hk:k<2):(s.Me k c).c k=c:=by
 obtain rfl|rfl:k=0∨k=1:=by omega
 ·rfl
 ·rfl
noncomputable def mrb (N:Nat->Nat) (ψ:Nat->Option LT) (s:MS):Nat×Nat:=((N 0 - s.c0)+(N 1 - s.c1),Al (lg ψ s))
def mlt:Nat×Nat->Nat×Nat->Prop:=Prod.Lex Nat.lt Nat.lt
theorem UC {l:LK}:l.DD=true↔l.pc= .ur:=by
 unfold LK.DD;cases l.pc<;>simp
theorem J9 {l:LK} (h:l.pc= .ur):l.Ik=true:=by unfold LK.Ik;rw [h]
theorem Xw {l:LK} (h:l.pc= .la):l.Ik=true:=by unfold LK.Ik;rw [h]
theorem Xx (h:MInv N j ψ s) {k:Nat} (hk:k<j) {x:LT} (hx:ψ k=some x) {o:Option LT} {s':MS} (hm:Zc N k x s o s'):
 MInv N j (upd ψ k o) s'∧(∀y,o=some y->mlt (mrb N (upd ψ k o) s') (mrb N ψ s)):=by
 have hk2:k<2:=by have :=h.j2;omega
 obtain ⟨_,Ia,hxe,hxN,hxs,hxo⟩:=h.some_ k x hk2 hx;have nb:=J8 hk2 hx h.reach
 have eG:(∃b,ψ k=some b∧b.l.pc= .ur)∨(∃l b,l<2∧l≠k∧ψ l=some b∧b.l.pc= .ur)↔s.own=true:=by
  rw [h.own];constructor
  ·rintro (⟨b,h1,h2⟩|⟨l,b,h1,h2,h3,h4⟩)
   ·exact ⟨k,b,hk2,h1,h2⟩
   ·exact ⟨l,b,h1,h3,h4⟩
  ·rintro ⟨l,b,h1,h2,h3⟩
   by_cases e:l=k
   ·subst e;exact .inl ⟨b,h2,h3⟩
   ·exact .inr ⟨l,b,h1,e,h2,h3⟩
 cases hm with
 | @la l c m _ r hp hr=>
   have he:r=(lk .ur,s.mu,s.ms):=by
    have hr':=hr;unfold lJ at hr';rw [hp] at hr';simpa using hr'
   have hu:l.DD=false:=by unfold LK.DD;rw [hp]
   obtain ⟨s1,s2⟩:=zI hk2 hx h.reach (o:=some ⟨r.1,c,s.o k⟩) (x:=r.1) (mu:=r.2.1) (ms:=r.2.2) hr rfl { s with mu:=r.2.1,ms:=r.2.2,own:=true } rfl rfl;refine ⟨h.upd hk hx s1 (λ_ _ _=>rfl) (λ_ _ _ _ _ _=>rfl) (λb hb=>?_) (λe=>by cases e) ⟨λ_=>.inl ⟨_,rfl,by rw [he]⟩, λ_=>rfl⟩, λy _=>.right _ (s2 hu)⟩;cases hb;have hpe:l.pc.early=true:=by rw [hp];rfl
   exact ⟨Ia, λ_=>hxe hpe,hxN, λ_=>rfl,by rw [he];simp⟩
 | @ur l c m _ r hp hr=>
   have he:r=(lk .ud,s.mu,s.ms):=by
    have hr':=hr;unfold lJ at hr';rw [hp] at hr';simpa using hr'
   have hce:c<N k:=hxe (by show l.pc.early=true;rw [hp];rfl);have hno:∀l' b,l'<2->l'≠k->ψ l'=some b->b.l.pc≠ .ur:= λl' b h1 h2 h3 h4=>h.alone hk2 h1 h2 hx h3 (J9 hp) (J9 h4)
   obtain ⟨s1,_⟩:=zI hk2 hx h.reach (o:=some ⟨r.1,c+1,m⟩) (x:=r.1) (mu:=r.2.1) (ms:=r.2.2) hr rfl { (s.Me k (c+1)) with mu:=r.2.1,ms:=r.2.2,own:=false } rfl rfl;refine ⟨h.upd hk hx s1 (λl' hl hne=>an7 hne hk2 hl) (λl' b hl hne hb hu=>absurd hu (hno l' b hl hne hb)) (λb hb=>?_) (λe=>by cases e) ⟨λe=>(by cases e), λe=>?_⟩, λy _=>.left _ _ ?_⟩
   ·cases hb;exact ⟨(NZ hk2).symm,(λe=>by rw [he] at e;cases e),hce,(λe=>by rw [he] at e;cases e),by rw [he];simp⟩
   ·rcases e with ⟨b,hb,hbu⟩|⟨l',b,h1,h2,h3,h4⟩
    ·cases hb;rw [he] at hbu;cases hbu
    ·exact absurd h4 (hno l' b h1 h2 h3)
   ·have Ia:c=s.c k:=Ia;obtain rfl|rfl:k=0∨k=1:=by omega
    ·have :c=s.c0:=Ia;show (N 0 - (c+1))+(N 1 - s.c1)<(N 0 - s.c0)+(N 1 - s.c1);omega
    ·have :c=s.c1:=Ia;show (N 0 - s.c0)+(N 1 - (c+1))<(N 0 - s.c0)+(N 1 - s.c1);omega
 | @more c m _ hc=>
   obtain ⟨s1,s2⟩:=zI hk2 hx h.reach (o:=some ⟨lk .ld,c,m⟩) (x:=lk .ld) (mu:=s.mu) (ms:=s.ms) (by simp [lJ]) rfl s rfl rfl;refine ⟨h.upd hk hx s1 (λ_ _ _=>rfl) (λ_ _ _ _ _ _=>rfl) (λb hb=>?_) (λe=>by cases e) ?_, λy _=>.right _ (s2 rfl)⟩
   ·cases hb;exact ⟨Ia, λ_=>hc,hxN, λe=>(by cases e),by simp⟩
   ·rw [<-eG];exact ⟨λe=>e.elim (λ⟨b,h1,h2⟩=>by rw [hx] at h1;cases h1;cases h2) .inr, λe=>e.elim (λ⟨b,h1,h2⟩=>by cases h1;cases h2) .inr⟩
 | @last c m _ hc=>
   obtain ⟨s1,s2⟩:=zI hk2 hx h.reach (o:=none) (x:=lk .out) (mu:=s.mu) (ms:=s.ms) (by simp [lJ]) rfl s rfl rfl;refine ⟨h.upd hk hx s1 (λ_ _ _=>rfl) (λ_ _ _ _ _ _=>rfl) (λb hb=>by cases hb) (λ_=>by rw [<-Ia];exact hc) ?_, λy e=>by cases e⟩;rw [<-eG];exact ⟨λe=>e.elim (λ⟨b,h1,h2⟩=>by rw [hx] at h1;cases h1;cases h2) .inr, λe=>e.elim (λ⟨b,h1,h2⟩=>by cases h1) .inr⟩
 | @go l c m _ r hp hr=>
   obtain ⟨hp1,hp2,hp3,hp4⟩:=hp;obtain ⟨a1,a2,a3,a4,a5,a6,a7⟩:=Gy r hr (nb r hr)
   have hu:l.DD=false:=by
    cases e:l.DD with
    |false=>rfl
    |true=>exact absurd (UC.1 e) hp2
   obtain ⟨s1,s2⟩:=zI hk2 hx h.reach (o:=some ⟨r.1,c,m⟩) (x:=r.1) (mu:=r.2.1) (ms:=r.2.2) hr rfl { s with mu:=r.2.1,ms:=r.2.2 } rfl rfl;have nur:r.1.pc≠ .ur:= λe=>hp1 (a2 e)
   refine ⟨h.upd hk hx s1 (λ_ _ _=>rfl) (λ_ _ _ _ _ _=>rfl) (λb hb=>?_) (λe=>by cases e) ?_, λy _=>.right _ (s2 hu)⟩
   ·cases hb;refine ⟨Ia, λe=>hxe ?_,hxN, λe=>absurd e nur, λe=>hp3 (a1 e)⟩;show l.pc.early=true;cases el:l.pc.early with
    |true=>rfl
    |false=>rw [a4 el hp3 hp4] at e;cases e
   ·have e:({ s with mu:=r.2.1,ms:=r.2.2 }:MS).own=s.own:=rfl;rw [e, <-eG];exact ⟨λe=>e.elim (λ⟨b,h1,h2⟩=>by rw [hx] at h1;cases h1;exact absurd h2 hp2) .inr, λe=>e.elim (λ⟨b,h1,h2⟩=>by cases h1;exact absurd h2 nur) .inr⟩
end
end
section
section
variable {N:Nat->Nat} {j:Nat} {ψ:Nat->Option LT} {s:MS}
theorem Xy {k:Nat} (hk:k<2) (Hw:ψ k=none) (h:Reach (lg ψ s)):Reach (lg (upd ψ k (some ⟨lk .ld,0,0⟩)) s):=by
 obtain rfl|rfl:k=0∨k=1:=by omega
 ·have e:lg (upd ψ 0 (some ⟨lk .ld,0,0⟩)) s=⟨lk .ld,proj (ψ 1),s.mu,s.ms⟩:=by unfold lg;rw [upd_same,upd_ne (by decide)];rfl
  rw [e];have hb:(lg ψ s).a=lk .out:=by unfold lg;rw [Hw];rfl
  exact (Mc h (by
   unfold LG.sa;exact List.mem_map.2 ⟨(lk .ld,s.mu,s.ms),by rw [hb];simp [lJ];exact ⟨rfl,rfl⟩,rfl⟩)).1
 ·have e:lg (upd ψ 1 (some ⟨lk .ld,0,0⟩)) s=⟨proj (ψ 0),lk .ld,s.mu,s.ms⟩:=by unfold lg;rw [upd_same,upd_ne (by decide)];rfl
  rw [e];have hb:(lg ψ s).b=lk .out:=by unfold lg;rw [Hw];rfl
  exact (Md h (by
   unfold LG.sb;exact List.mem_map.2 ⟨(lk .ld,s.mu,s.ms),by rw [hb];simp [lJ];exact ⟨rfl,rfl⟩,rfl⟩)).1
theorem UD (h:MInv N j ψ s) (hj:j<2) (hn:ψ j=none) {o:Option LT} (ho:o=if N j=0 then none else some ⟨lk .ld,0,0⟩):MInv N (j+1) (upd ψ j o) s:=by
 have hc0:=(h.none_ j hj hn).2 (aJ _)
 have nur:∀b,o=some b->b.l.pc≠ .ur:= λb hb e=>by
  rw [ho] at hb;split at hb
  ·cases hb
  ·cases hb;cases e
 refine ⟨by omega,?_, λk b hk hb=>?_, λk hk hb=>?_,?_⟩
 ·rw [ho];split
  ·have :upd ψ j none=ψ:=by
    funext k
    by_cases e:k=j
    ·subst e;rw [upd_same,hn]
    ·rw [upd_ne e]
   rw [this];exact h.reach
  ·exact Xy hj hn h.reach
 ·by_cases e:k=j
  ·subst e;rw [upd_same,ho] at hb;split at hb
   ·cases hb
   ·rename_i hN;cases hb;exact ⟨by omega,hc0.symm, λ_=>by show 0<N k;omega,by show 0<=N k;omega, λe=>(by cases e),by simp⟩
  ·rw [upd_ne e] at hb;obtain ⟨a1,a2⟩:=h.some_ k b hk hb;exact ⟨by omega,a2⟩
 ·by_cases e:k=j
  ·subst e;rw [upd_same,ho] at hb;split at hb
   ·rename_i hN;exact ⟨λ_=>by rw [hc0,hN], λx=>by omega⟩
   ·cases hb
  ·rw [upd_ne e] at hb;obtain ⟨a1,a2⟩:=h.none_ k hk hb;exact ⟨λx=>a1 (by omega), λx=>a2 (by omega)⟩
 ·rw [h.own];constructor
  ·rintro ⟨k,b,h1,h2,h3⟩;have e:k≠j:= λe=>by subst e;rw [hn] at h2;cases h2
   exact ⟨k,b,h1,by rw [upd_ne e];exact h2,h3⟩
  ·rintro ⟨k,b,h1,h2,h3⟩
   by_cases e:k=j
   ·subst e;rw [upd_same] at h2;exact absurd h3 (nur b h2)
   ·rw [upd_ne e] at h2;exact ⟨k,b,h1,h2,h3⟩
theorem Xz {k:Nat} {x:LT} {o:Option LT} {s':MS} (h:MInv N j ψ s) (hk:k<j) (hx:ψ k=some x) (zT:¬(x.l.pc= .s1∧s.ms=0)) (hw:x.l.pc≠ .us) (hm:Zc N k x s o s') (h0:s.ms=0):s'.ms=0:=by
 have hk2:k<2:=by have :=h.j2;omega
 have nb:=J8 hk2 hx h.reach
 have key:∀r∈lJ x.l s.mu s.ms,r.2.2=0:= λr hr=>by
  rw [(Gy r hr (nb r hr)).2.2.2.2.2.2 hw λe=>zT ⟨e,h0⟩];exact h0
 cases hm with
 |la hp hr=>exact key _ hr
 |ur hp hr=>exact key _ hr
 |more hc=>exact h0
 |last hc=>exact h0
 |go hp hr=>exact key _ hr
theorem UE (h:MInv N j ψ s) (he:∃k x,k<j∧ψ k=some x):∃k x,k<j∧ψ k=some x∧¬(x.l.pc= .s1∧s.ms=0):=by
 apply bq;intro hno
 have hall:∀k x,k<2->ψ k=some x->(x.l.pc= .s1∧s.ms=0):= λk x hk hx=>by
  apply bq;intro hn;exact hno ⟨k,x,(h.some_ k x hk hx).1,hx,hn⟩
 have hs:=h.safe;simp only [LG.safe,bC] at hs;have hs:=hs.1.1.2
 have st:∀k,k<2->((proj (ψ k)).wX||(proj (ψ k)).stuck s.ms)=true:= λk hk=>by
  cases hx:ψ k with
  |none=>rfl
  |some x=>
   obtain ⟨e1,e2⟩:=hall k x hk hx;show (x.l.wX||x.l.stuck s.ms)=true;unfold LK.stuck;rw [e1,e2];simp
 obtain ⟨k,x,hk,hx⟩:=he;have hk2:k<2:=by have :=h.j2;omega
 have hpc:=(hall k x hk2 hx).1;have hnot:(proj (ψ k)).wX=false:=by rw [hx];show x.l.wX=false;unfold LK.wX;rw [hpc]
 have s0:=st 0 (by omega);have s1:=st 1 (by omega);have hs:((proj (ψ 0)).wX&&(proj (ψ 1)).wX||!(((proj (ψ 0)).wX||(proj (ψ 0)).stuck s.ms)&&((proj (ψ 1)).wX||(proj (ψ 1)).stuck s.ms)))=true:=hs;rw [s0,s1] at hs;simp at hs;obtain rfl|rfl:k=0∨k=1:=by omega
 ·rw [hnot] at hs;simp at hs
 ·rw [hnot] at hs;simp at hs
variable {Mu:Nat} {tM:TypeId} {J:Nat->Nat->(Nat->Prop)->World->Prop} {syn:Nat->Prop}
theorem UF (hMu:syn Mu) (hJ:∀c0 c1 G w w',J c0 c1 G w->(∀b,G b->w'.heap[b]?=w.heap[b]?)->J c0 c1 G w'):nI (NY Mu tM N J) 2 syn (MInv N) (mrb N) mlt where
 wf:=(Prod.lex Nat.lt_wfRel Nat.lt_wfRel).wf
 spawn:= λh hj hn ho=>UD h hj hn ho
 move:= λh hk hx _ hm=>Xx h hk hx hm
 fits:= λh hk hx=>h.fits hk hx Mu tM J
 stay:= λ{j ψ s k x o s'} h hk hx hb hw hm l y hl hne hy hyb=>⟨hyb.1,Xz h hk hx hb (λe=>by
  have hw:(match x.l.pc with | .us=>true|_=>false)=false:=hw;rw [e] at hw;cases hw) hm hyb.2⟩
 kinds:= λx=>by
  show x.l.pc.kind≠_∧x.l.pc.kind≠_∧x.l.pc.kind≠_;cases x.l.pc<;>simp [El.kind]
 jG:= λ{j ψ s k x o s'} h hk hx hm=>by
  have hk2:k<2:=by have :=h.j2;omega
  have nb:=J8 hk2 hx h.reach;have hxo:=(h.some_ k x hk2 hx).2.2.2.2.2;show Kind.jG x.l.pc.deaf x.l.pc.kind=_;cases hm with
  |la hp hr=>exact ((Gy _ hr (nb _ hr)).2.2.2.2.2.1 (by rw [hp];simp) (by rw [hp];simp)).symm
  |ur hp hr=>exact ((Gy _ hr (nb _ hr)).2.2.2.2.2.1 (by rw [hp];simp) (by rw [hp];simp)).symm
  |more hc=>rfl
  |last hc=>rfl
  |go hp hr=>exact ((Gy _ hr (nb _ hr)).2.2.2.2.2.1 hp.2.2.1 hp.2.2.2).symm
 plain:= λ{j ψ s k x o s'} h hk hx hm hpl=>by
  have hpl:x.l.pc.kind.plain=true:=hpl;cases hm with
  |la hp hr=>rw [hp] at hpl;cases hpl
  |ur hp hr=>rw [hp] at hpl;cases hpl
  |more hc=>exact ⟨Iff.rfl, λ_ _ x=>x⟩
  |last hc=>exact ⟨Iff.rfl, λ_ _ x=>x⟩
  |go hp hr=>exact ⟨Iff.rfl, λ_ _ x=>x⟩
 uO:= λ{j ψ s k x o s'} h hk hx hm hkd=>by
  have hk2:k<2:=by have :=h.j2;omega
  have hkd:x.l.pc.kind= .uO:=hkd;have hpc:x.l.pc= .la:=by cases e:x.l.pc<;>rw [e] at hkd<;>first |rfl|cases hkd
  have hf:s.own=false:=by
   cases e:s.own with
   |false=>rfl
   |true=>
    exfalso;obtain ⟨l,b,h1,h2,h3⟩:=h.own.1 e;have hne:l≠k:= λe=>by subst e;rw [hx] at h2;cases h2;rw [hpc] at h3;cases h3
    exact h.alone hk2 h1 hne hx h2 (Xw hpc) (J9 h3)
  cases hm with
  |la hp hr=>exact ⟨hf, λe=>(by cases e),by show El.deaf _=0;rw [hp];rfl,by simp⟩
  |ur hp hr=>rw [hpc] at hp;cases hp
  |more hc=>cases hpc
  |last hc=>cases hpc
  |go hp hr=>exact absurd hpc hp.1
 uP:= λ{j ψ s k x o s'} h hk hx hm hkd=>by
  have hk2:k<2:=by have :=h.j2;omega
  have hkd:x.l.pc.kind= .uP:=hkd;have hpc:x.l.pc= .ur:=by cases e:x.l.pc<;>rw [e] at hkd<;>first |rfl|cases hkd
  have hf:s.own=true:=h.own.2 ⟨k,x,hk2,hx,hpc⟩;cases hm with
  |la hp hr=>rw [hpc] at hp;cases hp
  |ur hp hr=>exact ⟨λe=>absurd (hf.symm.trans e) (by simp),by show El.deaf _=0;rw [hp];rfl,by simp⟩
  |more hc=>cases hpc
  |last hc=>cases hpc
  |go hp hr=>exact absurd hpc hp.2.1
 alive:= λh he=>UE h he
 finish:= λ{ψ s} h hn=>by
  refine ⟨?_,(h.none_ 0 (by omega) (hn 0 (by omega))).1 (by omega),(h.none_ 1 (by omega) (hn 1 (by omega))).1 (by omega)⟩;show s.own=false;cases e:s.own with
  |false=>rfl
  |true=>
   obtain ⟨l,b,h1,h2,_⟩:=h.own.1 e;rw [hn l h1] at h2;cases h2
 I4:= λ_ _ _ h=>h
 zH:= λs w w' h hk=>Gt h (hk _ hMu).1 (hk _ hMu).2
 zf:= λs G w w' h hk=>hJ _ _ _ _ _ h hk
 LV:= λj x h=>by
  have h:some x=if N j=0 then none else some ⟨lk .ld,0,0⟩:=h
  split at h
  ·cases h
  ·cases h;rfl
end
end
section
section
variable {T Sh:Type} {P:Program} {S:Sys T Sh}
def Il (P:Program) (S:Sys T Sh) (X:lW T):lW T:= λi Tt own g W=>
 ∀Y:lW T,(∀i Tt own g W,X i Tt own g W->Y i Tt own g W)->(∀i Tt own g W,tL P S Y i Tt own g W->Y i Tt own g W)->Y i Tt own g W
theorem Il.base {X:lW T} {i:Nat} {Tt:T} {own:Nat->Prop} {g:Goroutine} {W:World} (h:X i Tt own g W):Il P S X i Tt own g W:= λ_ hX _=>hX _ _ _ _ _ h
theorem Il.step {X:lW T} {i:Nat} {Tt:T} {own:Nat->Prop} {g:Goroutine} {W:World} (h:tL P S (Il P S X) i Tt own g W):Il P S X i Tt own g W:=
 λY hX hL=>hL _ _ _ _ _ (tL.mono (λ_ _ _ _ _ x=>x Y hX hL) h)
theorem At.upto {X:lW T} (hX:∀i Tt own g W,X i Tt own g W->tL P S (Il P S λi Tt own g W=>X i Tt own g W∨At P S i Tt own g W) i Tt own g W) {i:Nat} {Tt:T} {own:Nat->Prop} {g:Goroutine} {W:World} (h:X i Tt own g W):At P S i Tt own g W:=by
 refine ⟨Il P S λi Tt own g W=>X i Tt own g W∨At P S i Tt own g W, λi Tt own g W hu=>?_,.base (.inl h)⟩;refine hu (λi Tt own g W=>tL P S (Il P S λi Tt own g W=>X i Tt own g W∨At P S i Tt own g W) i Tt own g W) (λi Tt own g W hx=>?_) (λi Tt own g W hl=>tL.mono (λ_ _ _ _ _ x=>.step x) hl);rcases hx with hx|hx
 ·exact hX _ _ _ _ _ hx
 ·exact tL.mono (λ_ _ _ _ _ x=>.base (.inr x)) hx.law
theorem At.up {X:lW T} {i:Nat} {Tt:T} {own:Nat->Prop} {g:Goroutine} {W:World} (h:At P S i Tt own g W):Il P S (λi Tt own g W=>X i Tt own g W∨At P S i Tt own g W) i Tt own g W:=.base (.inr h)
end
def tu (Mu Wg:Nat) (tM ty:TypeId) (N:Nat->Nat) (J:Nat->Nat->(Nat->Prop)->World->Prop) (ro:Nat->Prop) (Anch:(Nat->Prop)->Goroutine->World->Prop):Gq LT MS where
 body:=NY Mu tM N J
 N:=2
 ty:=ty
 Wg:=Wg
 syn:= λb=>b=Mu∨b=Wg
 ro:=ro
 pt:= λ_=>False
 cl:= λ_ _ _=>False
 Dp:= λ_ _ _ _=>True
 Anch:=Anch
section
variable {Mu Wg:Nat} {tM ty:TypeId} {N:Nat->Nat} {J:Nat->Nat->(Nat->Prop)->World->Prop} {ro:Nat->Prop} {Anch:(Nat->Prop)->Goroutine->World->Prop}
theorem Ka (h:Mu≠Wg):Cv (tu Mu Wg tM ty N J ro Anch) where
 big:=by show 2<2147483647;omega
 wg:=.inr rfl
 Ej:= λsb w w' hr hk=>by
  show MuAt tM Mu w' sb.mu sb.ms;have hr:MuAt tM Mu w sb.mu sb.ms:=hr;unfold MuAt at hr ⊢;rw [hk Mu h];exact hr
 cl:= λ_ _ _ _ h=>h.elim
 Y7:= λ_ _ _ _ h=>h.elim
 Cq:= λ_ _ _ _ _ _ _ _=>trivial
end
end
section
def Bg (tM:TypeId) (Mu:Nat) (w:World):Prop:=∃a b:Int,MuAt tM Mu w a b
theorem Bh {tM:TypeId} {Mu:Nat} {w w1:World} (h:Bg tM Mu w) (hs:yE w.heap[Mu]? w1.heap[Mu]?):Bg tM Mu w1:=by
 obtain ⟨st,sm,h⟩:=h;obtain ⟨c',e1,e2,e3⟩:=hs _ _ _ h;obtain ⟨a,ha⟩:=e3 0 .i32 st rfl;obtain ⟨b,hb⟩:=e3 1 .u32 sm rfl;refine ⟨a,b,?_⟩;show w1.heap[Mu]?=some (.cells #[.int .i32 a,.int .u32 b] tM)
 rw [e1];congr 2;have e2:c'.size=2:=e2;apply Array.ext_getElem?;intro i
 match i with
 |0=>rw [ha];rfl
 |1=>rw [hb];rfl
 |i+2=>
  rw [Array.getElem?_eq_none (by omega)];rfl
def KM (tM:TypeId) (Mu:Nat) (Z:gB) (own:Nat->Prop) (W0 w:World):Prop:=dZ Z own W0 w∧Bg tM Mu w
theorem dF {tM:TypeId} {Mu:Nat} {Z:gB} {own:Nat->Prop} {W0 w w1:World} (hz:Z.sy Mu) (h:KM tM Mu Z own W0 w) (hr:dZ Z own w w1):KM tM Mu Z own W0 w1:=
 ⟨h.1.trans hr,Bh h.2 (hr.sy _ hz)⟩
theorem KM.mu {tM:TypeId} {Mu:Nat} {Z:gB} {own:Nat->Prop} {W0 w:World} (h:KM tM Mu Z own W0 w):∃v:Value,w.cell? ⟨Mu,0,none⟩=some v:=by
 obtain ⟨a,b,h⟩:=h.2;exact ⟨_,h.cellSt⟩
theorem KM.muI {tM:TypeId} {Mu:Nat} {Z:gB} {own:Nat->Prop} {W0 w:World} (h:KM tM Mu Z own W0 w):∃v:Int,w.cell? ⟨Mu,0,none⟩=some (.int .i32 v):=by
 obtain ⟨a,b,h⟩:=h.2;exact ⟨_,h.cellSt⟩
theorem ac4 {tM:TypeId} {a b a' b':Int}:yE (some (muBlock tM a b)) (some (muBlock tM a' b')):=by
 intro c e fr h;unfold muBlock at h;cases h;refine ⟨_,rfl,rfl, λi k n hi=>?_⟩
 match i,hi with
 |0,hi=>simp at hi;obtain ⟨rfl,rfl⟩:=hi;exact ⟨a',rfl⟩
 |1,hi=>simp at hi;obtain ⟨rfl,rfl⟩:=hi;exact ⟨b',rfl⟩
 |i+2,hi=>simp at hi
def Jk (J:Nat->Nat->(Nat->Prop)->World->Prop) (k c o:Nat):(Nat->Prop)->World->Prop:=if k=0 then J c o else J o c
section
variable {P:Program} {Mu Wg:Nat} {tM ty:TypeId} {N:Nat->Nat} {J:Nat->Nat->(Nat->Prop)->World->Prop} {ro:Nat->Prop} {Anch:(Nat->Prop)->Goroutine->World->Prop}
variable {X:lW (FT LT)} {own:Nat->Prop} {g:Goroutine} {W W' W0:World} {i k c n:Nat} {l:LK}
theorem Po {st sm st' sm':Int} (h:MuAt tM Mu W st sm) (h':MuAt tM Mu W' st' sm') (ha:Eff Mu Mu W W'):eH (tu Mu Wg tM ty N J ro Anch).sys W W':=by
 refine ⟨ha.tape,ha.output,ha.os,ha.size, λb hb=>ha.block b (λe=>hb (.inl e)) (λe=>hb (.inl e)), λb _=>?_⟩
 by_cases e:b=Mu
 ·subst e;have h1:W.heap[b]?=some (muBlock tM st sm):=h
  have h2:W'.heap[b]?=some (muBlock tM st' sm'):=h'
  rw [h1,h2];exact ac4
 ·rw [ha.block b e e];exact yE.refl _
theorem an8 {st sm:Int} (hne:Mu≠Wg) (h:Go.ConcR.WgAt ty Wg W st sm) (ha:Eff Mu Mu W W'):Go.ConcR.WgAt ty Wg W' st sm:=by
 show W'.heap[Wg]?=_
 rw [ha.block Wg (λe=>hne e.symm) (λe=>hne e.symm)];exact h
theorem KM.turn {Z:gB} {st sm st' sm':Int} (hb:Beside (tu Mu Wg tM ty N J ro Anch) Z own) (hF:KM tM Mu Z own W0 W) (h:MuAt tM Mu W st sm) (h':MuAt tM Mu W' st' sm') (ha:Eff Mu Mu W W'):KM tM Mu Z own W0 W':=
 ⟨hF.1.trans ((Po (Wg:=Wg) (ty:=ty) (N:=N) (J:=J) (ro:=ro) (Anch:=Anch) h h' ha).rely' hb),⟨_,_,h'⟩⟩
theorem XA {T:LT} (h:Gw P (i==0) ((tu Mu Wg tM ty N J ro Anch).Zw k) (X i (.bd k T)) own g W):On P (tu Mu Wg tM ty N J ro Anch).sys X i (.bd k T) own g W:=by
 unfold On;rw [aa (by show ¬(false=true);simp)];exact h
theorem fE (hne:Mu≠Wg) (hp:l.pc≠ .la∧l.pc≠ .ur∧l.pc≠ .ue∧l.pc≠ .out) (hr:g.status= .running) (ho:g.offers=none)
 (h:∀(s:uT MS),MuAt tM Mu W s.b.mu s.b.ms->L9 s.b.mu=true->s.b.ms<=1->(∀r∈lJ l s.b.mu s.b.ms,r.1.Ak=false)->
   ((l.pc= .s1∧s.b.ms=0)∧stepG P (i==0) g W= .go { g with status:=.blocked } W #[])∨
   (¬(l.pc= .s1∧s.b.ms=0)∧∃l' mu' ms' g' W' es,(l',mu',ms')∈lJ l s.b.mu s.b.ms∧stepG P (i==0) g W= .go g' W' es∧(l.pc= .us->mayWake P g=true)∧MuAt tM Mu W' (mu':Nat) (ms':Nat)∧Eff Mu Mu W W'∧RZ (tu Mu Wg tM ty N J ro Anch).sys s l.pc.kind es∧
     Gw P (i==0) ((tu Mu Wg tM ty N J ro Anch).Zw k) (X i (.bd k ⟨l',c,n⟩)) own g' W')):
 tL P (tu Mu Wg tM ty N J ro Anch).sys X i (.bd k ⟨l,c,n⟩) own g W:=by
 refine ⟨hr, λ_=>ho, λs hs hf=>?_⟩;rw [aa (by show ¬(false=true);simp),aa (by show ¬(false=true);simp)];obtain ⟨hwg,hmu⟩:=hs;have hmu:MuAt tM Mu W s.b.mu s.b.ms:=hmu;obtain ⟨⟨f1,f2,f3,_⟩,_⟩:=hf;rcases h s hmu f1 f2 f3 with ⟨h1,h2⟩|⟨h1,l',mu',ms',g',W',es,h2,h3,h4,h5,h6,h7,h8⟩
 ·exact .inl ⟨h1,h2⟩
 ·refine .inr ⟨h1,.bd k ⟨l',c,n⟩,{ s with b:={ s.b with mu:=mu',ms:=ms' } },g',W',es,.bd (.go hp h2),h3, λhw=>h4 ?_,⟨an8 hne hwg h6,h5⟩,Po hmu h5 h6,h7,?_⟩
  ·have hw:(match l.pc with | .us=>true|_=>false)=true:=hw;cases e:l.pc<;>rw [e] at hw<;>first |rfl|cases hw
  ·have hon:On P (tu Mu Wg tM ty N J ro Anch).sys X i (.bd k ⟨l',c,n⟩) own g' W':=XA h8;show match l.pc.kind with | .uO=>_| .uP=>_| .done=>_| .join=>_|_=>_
   cases e:l.pc<;>first |exact hon|exact absurd e hp.1|exact absurd e hp.2.1
theorem N7 (hne:Mu≠Wg) (hl:l=lk .la) (hr:g.status= .running) (ho:g.offers=none)
 (h:∀s:uT MS,MuAt tM Mu W s.b.mu s.b.ms->s.b.c k=c->∃g',stepG P (i==0) g W= .go g' W #[⟨.mark (.acquire (muA Mu)),false,true⟩]∧∀G,(∀b,G b->¬own b)->Jk J k c (s.b.o k) G W->
    Gw P (i==0) ((tu Mu Wg tM ty N J ro Anch).Zw k) (X i (.bd k ⟨lk .ur,c,s.b.o k⟩)) (λb=>own b∨G b) g' W):
 tL P (tu Mu Wg tM ty N J ro Anch).sys X i (.bd k ⟨l,c,n⟩) own g W:=by
 subst hl;refine ⟨hr, λ_=>ho, λs hs hf=>?_⟩;rw [aa (by show ¬(false=true);simp),aa (by show ¬(false=true);simp)];obtain ⟨hwg,hmu⟩:=hs;have hmu:MuAt tM Mu W s.b.mu s.b.ms:=hmu;obtain ⟨⟨f1,f2,f3,f4,f5,f6,f7,f8⟩,hj⟩:=hf;have f4:c=s.b.c k:=f4;obtain ⟨g',h1,h2⟩:=h s hmu f4.symm;refine .inr ⟨(λx=>by have :=x.1;cases this),.bd k ⟨lk .ur,c,s.b.o k⟩,{ s with b:={ s.b with own:=true } },g',W,_,.bd (.la rfl (r:=(lk .ur,s.b.mu,s.b.ms)) (by simp [lJ])),h1,(λhw=>by cases hw),⟨hwg,hmu⟩,eH.refl _,⟨muA Mu,?_,rfl⟩,?_⟩
 ·show (if s.jn then none else some (muA Mu))=_;rw [hj];rfl
 ·intro G hG hJ;refine XA (h2 G hG ?_);have hJ:J s.b.c0 s.b.c1 G W:=hJ;unfold Jk;split
  ·rename_i e;subst e;rw [f4];exact hJ
  ·rename_i e;rw [f4];show J (if k=0 then s.b.c1 else s.b.c0) (if k=0 then s.b.c0 else s.b.c1) G W;rw [aa e,aa e];exact hJ
theorem av3 (hne:Mu≠Wg) (hl:l=lk .ur) (hr:g.status= .running) (ho:g.offers=none) {G:Nat->Prop} (hG:∀b,G b->own b) (hJ:Jk J k (c+1) n G W)
 (h:∃g',stepG P (i==0) g W= .go g' W #[⟨.mark (.releaseMerge (muA Mu)),false,true⟩]∧Gw P (i==0) ((tu Mu Wg tM ty N J ro Anch).Zw k) (X i (.bd k ⟨lk .ud,c+1,n⟩)) (λb=>own b∧¬G b) g' W):
 tL P (tu Mu Wg tM ty N J ro Anch).sys X i (.bd k ⟨l,c,n⟩) own g W:=by
 subst hl;refine ⟨hr, λ_=>ho, λs hs hf=>?_⟩;rw [aa (by show ¬(false=true);simp),aa (by show ¬(false=true);simp)];obtain ⟨hwg,hmu⟩:=hs;have hmu:MuAt tM Mu W s.b.mu s.b.ms:=hmu;obtain ⟨⟨f1,f2,f3,f4,f5,f6,f7,f8⟩,hj⟩:=hf;have f4:c=s.b.c k:=f4;have f5:n=s.b.o k:=f5 rfl;obtain ⟨g',h1,h2⟩:=h;refine .inr ⟨(λx=>by have :=x.1;cases this),.bd k ⟨lk .ud,c+1,n⟩,{ s with b:={ (s.b.Me k (c+1)) with mu:=s.b.mu,ms:=s.b.ms,own:=false } },g',W,_,.bd (.ur rfl (r:=(lk .ud,s.b.mu,s.b.ms)) (by simp [lJ])),h1,(λhw=>by cases hw),⟨hwg,hmu⟩,eH.refl _,⟨muA Mu,?_,rfl⟩,G,hG,?_,XA h2⟩
 ·show (if s.jn then none else some (muA Mu))=_;rw [hj];rfl
 ·show J (s.b.Me k (c+1)).c0 (s.b.Me k (c+1)).c1 G W;unfold Jk at hJ;unfold MS.Me;split at hJ
  ·rename_i e;rw [aj e];rw [f5] at hJ;show J (c+1) s.b.c1 G W;have :s.b.o k=s.b.c1:=by show (if k=0 then s.b.c1 else s.b.c0)=_;rw [aj e]
   rwa [this] at hJ
  ·rename_i e;rw [aa e];rw [f5] at hJ;show J s.b.c0 (c+1) G W;have :s.b.o k=s.b.c0:=by show (if k=0 then s.b.c1 else s.b.c0)=_;rw [aa e]
   rwa [this] at hJ
def vG (N:Nat->Nat) (k c n:Nat):FT LT:=if c<N k then .bd k ⟨lk .ld,c,n⟩ else .wg k .wr
theorem XB (hne:Mu≠Wg) (hl:l=lk .ue) (hr:g.status= .running) (ho:g.offers=none)
 (h:∃g',stepG P (i==0) g W= .go g' W #[⟨.mark .enable,false,true⟩]∧Gw P (i==0) ((tu Mu Wg tM ty N J ro Anch).Zw k) (X i (vG N k c n)) own g' W):
 tL P (tu Mu Wg tM ty N J ro Anch).sys X i (.bd k ⟨l,c,n⟩) own g W:=by
 subst hl;refine ⟨hr, λ_=>ho, λs hs hf=>?_⟩;rw [aa (by show ¬(false=true);simp),aa (by show ¬(false=true);simp)];obtain ⟨hwg,hmu⟩:=hs;have hmu:MuAt tM Mu W s.b.mu s.b.ms:=hmu;obtain ⟨⟨f1,f2,f3,f4,f5,f6,f7,f8⟩,hj⟩:=hf;have f7:c<=N k:=f7;obtain ⟨g',h1,h2⟩:=h;unfold vG at h2;split at h2
 ·rename_i hc;exact .inr ⟨(λx=>by have :=x.1;cases this),.bd k ⟨lk .ld,c,n⟩,s,g',W,_,.bd (.more hc),h1,(λhw=>by cases hw),⟨hwg,hmu⟩,eH.refl _,rfl,XA h2⟩
 ·rename_i hc;refine .inr ⟨(λx=>by have :=x.1;cases this),.wg k .wr,s,g',W,_,.Af (.last (by omega)),h1,(λhw=>by cases hw),⟨hwg,hmu⟩,eH.refl _,rfl,?_⟩;show On P (tu Mu Wg tM ty N J ro Anch).sys X i (.wg k .wr) own g' W;unfold On;rw [aa (by show ¬(false=true);simp)];exact h2
end
end
end Par
