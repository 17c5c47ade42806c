/- Part 1. -/
import Derived.Test.YtnemnkmojiljmaaGreatH29
set_option maxRecDepth 100000
set_option maxHeartbeats 0
set_option linter.all false
namespace Go.Proofs
open Go Go.RowKit
section
variable [Lo.St]
def bJ (o:List Int) (k:Nat):Int:=(o[2*k]?).getD 0
def bH (o:List Int) (k:Nat):Int:=(o[2*k+1]?).getD 0
def loS (ss:List eX) (s:Nat) (x:eX) (a:Int):Int:=if kJ s x.fr x.to=1 then max a (gM ss s+x.hi) else a
def hiS (ss:List eX) (s:Nat) (x:eX) (a:Int):Int:=if kJ s x.fr x.to=2 then min a (x.lo - gM ss s) else a
theorem ay7 {ss:List eX} {s:Nat} {o:List Int} (ho:o.length=2*ss.length) {j k:Nat} {x:eX} (hx:ss[j]?=some x):
 bJ (xm ss s o j) k=(if k=j then loS ss s x (bJ o k) else bJ o k)∧bH (xm ss s o j) k=if k=j then hiS ss s x (bH o k) else bH o k:=by
 have hj:=(aY.1 hx).1;unfold xm;rw [hx];dsimp only;unfold bJ bH loS hiS
 by_cases e:k=j
 ·subst e;rw [aj rfl,aj rfl]
  by_cases h1:kJ s x.fr x.to=1
  ·rw [aj h1,aj h1,aa (by rw [h1];decide),List.getElem?_set_self (by omega),List.getElem?_set_ne (by omega)];exact ⟨rfl,rfl⟩
  ·rw [aa h1,aa h1]
   by_cases h2:kJ s x.fr x.to=2
   ·rw [aj h2,aj h2,List.getElem?_set_self (by omega),List.getElem?_set_ne (by omega)];exact ⟨rfl,rfl⟩
   ·rw [aa h2,aa h2];exact ⟨rfl,rfl⟩
 ·rw [aa e,aa e];split
  ·rw [List.getElem?_set_ne (by omega),List.getElem?_set_ne (by omega)];exact ⟨rfl,rfl⟩
  ·split
   ·rw [List.getElem?_set_ne (by omega),List.getElem?_set_ne (by omega)];exact ⟨rfl,rfl⟩
   ·exact ⟨rfl,rfl⟩
theorem aw7 {ss:List eX} {s:Nat} {o:List Int} (ho:o.length=2*ss.length) {k:Nat} {x:eX} (hx:ss[k]?=some x):∀j,j<=ss.length->
 bJ (tX ss s o j) k=(if k<j then loS ss s x (bJ o k) else bJ o k)∧bH (tX ss s o j) k=if k<j then hiS ss s x (bH o k) else bH o k
 |0,_=>⟨rfl,rfl⟩
 |j+1,hj=>by
  obtain ⟨h1,h2⟩:=aw7 ho hx (s:=s) j (by omega);obtain ⟨h3,h4⟩:=ay7 (s:=s) (o:=tX ss s o j) ((zN ss s o j).trans ho) (k:=k) (aN (show j<ss.length by omega));unfold tX;rw [h3,h4,h1,h2]
  by_cases e:k=j
  ·subst e;rw [aN (show k<ss.length by omega)] at hx;have hx:=aT hx;rw [hx];simp
  ·by_cases hlt:k<j
   ·rw [aa e,aa e,aj hlt,aj (by omega),aj hlt,aj (by omega)];exact ⟨rfl,rfl⟩
   ·rw [aa e,aa e,aa hlt,aa (by omega),aa hlt,aa (by omega)];exact ⟨rfl,rfl⟩
theorem av9 {ss:List eX} {k:Nat} {x:eX} (hx:ss[k]?=some x):∀j,j<=ss.length->k<j->bJ (nY ss j) k=x.lo∧bH (nY ss j) k=x.hi
 |j+1,hj,hk=>by
  have hl:=CR ss j (by omega);unfold nY bJ bH;rw [aN (show j<ss.length by omega)];dsimp only
  by_cases e:k=j
  ·subst e;rw [aN (show k<ss.length by omega)] at hx;rw [aT hx];rw [List.getElem?_append_right (by omega),List.getElem?_append_right (by omega),hl];simp
  ·rw [List.getElem?_append_left (by omega),List.getElem?_append_left (by omega)];exact av9 hx j (by omega) (by omega)
structure Ends (ss:List eX) (m:Nat) (x:eX) (l h:Int):Prop where
 l0:x.lo<=l
 h0:h<=x.hi
 l1:∀s,s<m->kJ s x.fr x.to=1->gM ss s+x.hi<=l
 h1:∀s,s<m->kJ s x.fr x.to=2->h<=x.lo - gM ss s
 l2:l=x.lo∨∃s,s<m∧kJ s x.fr x.to=1∧l=gM ss s+x.hi
 h2:h=x.hi∨∃s,s<m∧kJ s x.fr x.to=2∧h=x.lo - gM ss s
theorem aw0 {ss:List eX} {k:Nat} {x:eX} (hx:ss[k]?=some x):∀m,Ends ss m x (bJ (nA ss m) k) (bH (nA ss m) k)
 |0=>by
  obtain ⟨h1,h2⟩:=av9 hx ss.length (aJ _) (aY.1 hx).1;unfold nA;rw [h1,h2];exact ⟨Int.le_refl _,Int.le_refl _, λs h=>absurd h (Nat.not_lt_zero _), λs h=>absurd h (Nat.not_lt_zero _),.inl rfl,.inl rfl⟩
 |m+1=>by
  obtain ⟨a,b,c,d,e,f⟩:=aw0 hx m;obtain ⟨h1,h2⟩:=aw7 (s:=m) (o:=nA ss m) (pV ss m) hx ss.length (aJ _);have hk:=(aY.1 hx).1;unfold nA;rw [h1,h2,aj hk,aj hk];generalize bJ (nA ss m) k=l at *;generalize bH (nA ss m) k=h at *;have hl:l<=loS ss m x l:=by unfold loS;split<;>omega
  have hh:hiS ss m x h<=h:=by unfold hiS;split<;>omega
  refine ⟨by omega,by omega, λs hs h=>?_, λs hs h=>?_,?_,?_⟩
  ·by_cases q:s=m
   ·subst q;unfold loS;rw [aj h];omega
   ·have :=c s (by omega) h;omega
  ·by_cases q:s=m
   ·subst q;unfold hiS;rw [aj h];omega
   ·have :=d s (by omega) h;omega
  ·have e':l=x.lo∨∃s,s<m+1∧kJ s x.fr x.to=1∧l=gM ss s+x.hi:=e.imp id λ⟨s,h1,h2⟩=>⟨s,by omega,h2⟩
   unfold loS;split
   ·rename_i h;rcases Int.le_total (gM ss m+x.hi) l with q|q
    ·rw [Int.max_eq_left q];exact e'
    ·rw [Int.max_eq_right q];exact .inr ⟨m,by omega,h,rfl⟩
   ·exact e'
  ·have f':h=x.hi∨∃s,s<m+1∧kJ s x.fr x.to=2∧h=x.lo - gM ss s:=f.imp id λ⟨s,h1,h2⟩=>⟨s,by omega,h2⟩
   unfold hiS;split
   ·rename_i h3;rcases Int.le_total h (x.lo - gM ss m) with q|q
    ·rw [Int.min_eq_left q];exact f'
    ·rw [Int.min_eq_right q];exact .inr ⟨m,by omega,h3,rfl⟩
   ·exact f'
theorem aw4 {ss:List eX} {nd k:Nat} {x:eX} (hx:ss[k]?=some x):Ends ss (2 ^ nd) x (bJ (mG ss nd) k) (bH (mG ss nd) k):=aw0 hx _
def bK (s:Nat):List eX->Int
 | []=>0
 |x::l=>OJ s 0 x+bK s l
theorem bI (s:Nat) (x:eX) (l:List eX):bK s (x::l)=OJ s 0 x+bK s l:=rfl
theorem az9 (s:Nat) (n:Int) (x:eX):OJ s n x=n+OJ s 0 x:=by
 unfold OJ;split
 ·omega
 ·split<;>omega
theorem bR (ss:List eX) (s:Nat):gM ss s=bK s ss:=by
 have :∀(l:List eX) (n:Int),l.foldl (OJ s) n=n+bK s l:=by
  intro l
  induction l with
  |nil=>intro n;simp [bK]
  |cons x l ih=>intro n;rw [List.foldl_cons,ih,az9];show _=n+(OJ s 0 x+bK s l);omega
 have h:=this ss 0;unfold gM;omega
theorem az3 (s t i:Nat):bit (s|||t) i=max (bit s i) (bit t i):=by
 have h:∀n:Nat,bit n i=(n.testBit i).toNat:= λn=>by
  unfold bit;rw [Nat.testBit_eq_decide_div_mod_eq]
  have :n / 2 ^ i%2<2:=Nat.mod_lt _ (by decide)
  by_cases e:n / 2 ^ i%2=1<;>simp [e]<;>omega
 rw [h,h,h,Nat.testBit_or];cases s.testBit i<;>cases t.testBit i<;>rfl
theorem ay1 (s t i:Nat):bit (s&&& t) i=min (bit s i) (bit t i):=by
 have h:∀n:Nat,bit n i=(n.testBit i).toNat:= λn=>by
  unfold bit;rw [Nat.testBit_eq_decide_div_mod_eq]
  have :n / 2 ^ i%2<2:=Nat.mod_lt _ (by decide)
  by_cases e:n / 2 ^ i%2=1<;>simp [e]<;>omega
 rw [h,h,h,Nat.testBit_and];cases s.testBit i<;>cases t.testBit i<;>rfl
theorem aA0 (s t:Nat) (x:eX) (h:x.lo<=x.hi):OJ s 0 x+OJ t 0 x<=OJ (s|||t) 0 x+OJ (s&&& t) 0 x∧(kJ s x.fr x.to=1->kJ t x.fr x.to=2->OJ s 0 x+OJ t 0 x+(x.hi - x.lo)<=OJ (s|||t) 0 x+OJ (s&&& t) 0 x):=by
 unfold OJ kJ;rw [az3,ay1,az3,ay1];have a:=KG s x.fr;have b:=KG s x.to;have c:=KG t x.fr;have d:=KG t x.to;generalize bit s x.fr=p at *;generalize bit s x.to=q at *;generalize bit t x.fr=u at *;generalize bit t x.to=v at *;rcases (by omega:p=0∨p=1) with rfl|rfl<;>rcases (by omega:q=0∨q=1) with rfl|rfl<;>rcases (by omega:u=0∨u=1) with rfl|rfl<;>rcases (by omega:v=0∨v=1) with rfl|rfl<;>simp <;>omega
theorem ay2 (s t:Nat):∀(ss:List eX),(∀x∈ss,x.lo<=x.hi)->bK s ss+bK t ss<=bK (s|||t) ss+bK (s&&& t) ss∧∀x∈ss,kJ s x.fr x.to=1->kJ t x.fr x.to=2->bK s ss+bK t ss+(x.hi - x.lo)<=bK (s|||t) ss+bK (s&&& t) ss
 | [],_=>⟨Int.le_refl _, λx h=>by cases h⟩
 |y::l,h=>by
  obtain ⟨h1,h2⟩:=ay2 s t l λx hx=>h x (aQ _ hx)
  obtain ⟨h3,h4⟩:=aA0 s t y (h y aP);refine ⟨by unfold bK;omega, λx hx a b=>?_⟩;rcases bD.1 hx with rfl|hx
  ·have :=h4 a b;unfold bK;omega
  ·have :=h2 x hx a b;unfold bK;omega
theorem av1 {ss:List eX} {nd:Nat} (h:gN ss nd=true):(∀x∈ss,x.lo<=x.hi)∧∀s,s<2 ^ nd->gM ss s<=0:=by
 unfold gN iQ sV at h;rw [bB,Bool.not_eq_true',List.any_eq_false,bF] at h;exact ⟨λx hx=>by have :=h.1 x hx;simp at this;omega, λs hs=>by have :=h.2 s (List.mem_range.2 hs);simpa using this⟩
theorem az4 {ss:List eX} {nd:Nat} (h:∀x∈ss,x.lo<=x.hi) (h2:∀s,s<2 ^ nd->gM ss s<=0):gN ss nd=true:=by
 unfold gN iQ sV;rw [bB,Bool.not_eq_true',List.any_eq_false,bF];exact ⟨λx hx=>by have :=h x hx;simp;omega, λs hs=>by have :=h2 s (List.mem_range.1 hs);simpa using this⟩
theorem aA1 {ss:List eX} {nd k:Nat} {x:eX} (hx:ss[k]?=some x) (hh:gN ss nd=true):bJ (mG ss nd) k<=bH (mG ss nd) k:=by
 obtain ⟨a,b,c,d,e,f⟩:=aw4 (nd:=nd) hx;obtain ⟨h1,h2⟩:=av1 hh;have hm:=List.mem_of_getElem? hx;have hx':=h1 x hm;rcases e with e|⟨s,hs,h3,e⟩<;>rcases f with f|⟨t,ht,h4,f⟩
 ·omega
 ·have :=h2 t ht;omega
 ·have :=h2 s hs;omega
 ·have h5:=(ay2 s t ss h1).2 x hm h3 h4;have h6:=h2 _ (Nat.or_lt_two_pow hs ht);have h7:=h2 _ (Nat.lt_of_le_of_lt Nat.and_le_left hs:s&&& t<2 ^ nd);rw [bR] at h6 h7 e f;omega
end
section
variable [Lo.St]
theorem bL (s:Nat):∀l r:List eX,bK s (l++r)=bK s l+bK s r
 | [],r=>by simp [bK]
 |x::l,r=>by rw [List.cons_append,bI,bI,bL s l r];omega
theorem aw1 {s t:Nat}:∀{l:List eX},(∀x∈l,bit s x.fr=bit t x.fr∧bit s x.to=bit t x.to)->bK s l=bK t l
 | [],_=>rfl
 |x::l,h=>by
  have h1:=h x aP;rw [bI,bI,aw1 λy hy=>h y (aQ _ hy)];unfold OJ kJ;rw [h1.1,h1.2]
theorem av4 (s n i:Nat) (h:i<n):bit (s%2 ^ n) i=bit s i:=by
 have e:∀n:Nat,bit n i=(n.testBit i).toNat:= λn=>by
  unfold bit;rw [Nat.testBit_eq_decide_div_mod_eq]
  have :n / 2 ^ i%2<2:=Nat.mod_lt _ (by decide)
  by_cases e:n / 2 ^ i%2=1<;>simp [e]<;>omega
 rw [e,e,Nat.testBit_mod_two_pow];simp [h]
def az5 (s n:Nat):Int:=if bit s (n+1)=0∧bit s n=1 then 1000000 else 0
theorem av5 {b:dO} (hg:b.good) (h:Nat) (hn:∀s∈b.steps,0<=s.hand) (s:Nat):∀k,k<=b.steps.length->bK s (fq b h k)<=bK (s%2 ^ (b.steps.length+1)) (fq b (-1) k)+k*az5 s b.steps.length
 |0,_=>by unfold fq bK;simp
 |k+1,hk=>by
  have ih:=av5 hg h hn s k (by omega);have hm:=aX (show k<b.steps.length by omega);obtain ⟨a1,a2,a3,a4,a5,a6,a7,a8⟩:=hg.st _ hm;have h0:=hn _ hm;unfold fq;rw [aN (show k<b.steps.length by omega)];dsimp only;rw [bL,bL];unfold nT;rw [bI,bI,bI,bI];rw [show bK s []=0 from rfl,show bK (s%2 ^ (b.steps.length+1)) []=0 from rfl];rw [aa (show ¬b.steps[k].hand= -1 by omega)];have e1:=av4 s (b.steps.length+1) k (by omega);have e2:=av4 s (b.steps.length+1) b.steps.length (by omega);have e3:=KG s k;have e4:=KG s b.steps.length;have e5:=KG s (b.steps.length+1);unfold OJ kJ az5 at *;dsimp only;rw [e1,e2];have ec:((k+1:Nat):Int)=(k:Int)+1:=by omega
  rw [ec,Int.add_mul,Int.one_mul]
  by_cases q:b.steps[k].hand=(h:Int)
  ·rw [aj q];generalize (k:Int)*_=z at *;generalize bit s k=u at *;generalize bit s b.steps.length=v at *;generalize bit s (b.steps.length+1)=t at *;rcases (by omega:u=0∨u=1) with rfl|rfl<;>rcases (by omega:v=0∨v=1) with rfl|rfl<;>rcases (by omega:t=0∨t=1) with rfl|rfl<;>simp <;>omega
  ·rw [aa q];generalize (k:Int)*_=z at *;generalize bit s k=u at *;generalize bit s b.steps.length=v at *;generalize bit s (b.steps.length+1)=t at *;rcases (by omega:u=0∨u=1) with rfl|rfl<;>rcases (by omega:v=0∨v=1) with rfl|rfl<;>rcases (by omega:t=0∨t=1) with rfl|rfl<;>simp <;>omega
theorem az6 (b:dO):dZ b (-1)=b.steps.length+1:=rfl
theorem aA2 (b:dO) (h:Nat):dZ b h=b.steps.length+2:=by unfold dZ;rw [aj (by omega)]
theorem av6 (b:dO) (hand hand':Int) (h:∀x∈fq b hand b.steps.length,x.lo<=x.hi):∀k,k<=b.steps.length->∀x∈fq b hand' k,x.lo<=x.hi:=by
 have :∀k,k<=b.steps.length->((∀x∈fq b hand k,x.lo<=x.hi)->∀x∈fq b hand' k,x.lo<=x.hi):=by
  intro k
  induction k with
  |zero=>intro _ _ x hx;simp [fq] at hx
  |succ k ih=>
   intro hk h x hx;unfold fq at h hx;rw [aN (show k<b.steps.length by omega)] at h hx;rcases List.mem_append.1 hx with hx|hx
   ·exact ih (by omega) (λy hy=>h y (List.mem_append_left _ hy)) x hx
   ·have h1:=h ⟨b.steps[k].g0,b.steps[k].g1,b.steps.length,k⟩ (List.mem_append_right _ (by simp [nT]));have h2:=h ⟨b.steps[k].l0,b.steps[k].l1,k,if b.steps[k].hand=hand then b.steps.length+1 else b.steps.length⟩ (List.mem_append_right _ (by simp [nT]));simp only [nT,bD,ax,or_false] at hx;rcases hx with rfl|rfl
    ·exact h1
    ·exact h2
 have a:=this b.steps.length (aJ _) h;intro k hk
 have mono:∀d k,k+d=b.steps.length->∀x∈fq b hand' k,x∈fq b hand' b.steps.length:=by
  intro d
  induction d with
  |zero=>intro k e x hx;rw [aH] at e;rwa [<-e]
  |succ d ih=>intro k e x hx;exact ih (k+1) (by omega) x (by unfold fq;exact List.mem_append_left _ hx)
 exact λx hx=>a x (mono (b.steps.length - k) k (by omega) x hx)
theorem av7 {b:dO} (hs:b.small) (hc:fG b=0) (hh:qR b=true) (h:Nat):gN (fA b h) (dZ b h)=true:=by
 have hg:=lM hs hc
 have hn:∀s∈b.steps,0<=s.hand:= λs hm=>by
  have :=(vE (CX (EP hc).2.2.1).2.1 s hm).1;unfold kH at this;simp at this;omega
 obtain ⟨h1,h2⟩:=av1 hh;rw [az6] at h2;rw [aA2];have wb:fA b (-1)=eG b b.dz.length++fq b (-1) b.steps.length:=by unfold fA;rw [aa (by decide),List.append_nil]
 have wh:fA b h=eG b b.dz.length++fq b h b.steps.length++ [⟨0,8000000,b.steps.length+1,b.steps.length⟩]:=by unfold fA;rw [aj (by omega)]
 rw [wb] at h1 h2;rw [wh];refine az4 (λx hx=>?_) λs hs=>?_
 ·rcases List.mem_append.1 hx with hx|hx
  ·rcases List.mem_append.1 hx with hx|hx
   ·exact h1 x (List.mem_append_left _ hx)
   ·exact av6 b (-1) h (λy hy=>h1 y (List.mem_append_right _ hy)) _ (aJ _) x hx
  ·simp at hx;subst hx;show (0:Int)<=8000000;decide
 ·have h3:=h2 (s%2 ^ (b.steps.length+1)) (Nat.mod_lt _ (Nat.pow_pos (by decide)));have h4:=av5 hg h hn s b.steps.length (aJ _);rw [bR] at h3 ⊢;rw [bL] at h3 ⊢;rw [bL]
  have h5:bK s (eG b b.dz.length)=bK (s%2 ^ (b.steps.length+1)) (eG b b.dz.length):=aw1 λx hx=>by
   obtain ⟨p,_,rfl⟩:=List.mem_map.1 hx;have m:=MM b.steps p;have u:=RF b.steps p;exact ⟨(av4 s _ _ (show (tq b.steps p).toNat<_ by omega)).symm,(av4 s _ _ (show ((qO b.steps p).getD b.steps.length).toNat<_ by omega)).symm⟩
  rw [h5];have h8:=hg.n8;have e4:=KG s b.steps.length;have e5:=KG s (b.steps.length+1);unfold az5 at h4;show _+(OJ s 0 ⟨0,8000000,b.steps.length+1,b.steps.length⟩+0)<=0;unfold OJ kJ;dsimp only;generalize bit s b.steps.length=v at *;generalize bit s (b.steps.length+1)=t at *;rcases (by omega:v=0∨v=1) with rfl|rfl<;>rcases (by omega:t=0∨t=1) with rfl|rfl<;>simp at h4 ⊢ <;>omega
end
section
variable [Lo.St]
def bM (b:dO) (x:jD):dO:={ b with dA:=b.dA++ [x] }
end
section
variable [Lo.St]
theorem DD.at:∀{l r:List eX} {k:Nat} {x:eX},DD l r->l[k]?=some x->∃y,r[k]?=some y∧y.lo<=x.lo∧x.hi<=y.hi∧x.fr=y.fr∧x.to=y.to
 |x::l,y::r,0,z,h,e=>by obtain rfl:=aT e;exact ⟨y,rfl,h.1⟩
 |x::l,y::r,k+1,z,h,e=>DD.at (l:=l) (r:=r) (k:=k) h.2 e
 | [],_,_,_,_,e=>by cases e
 |_::_,[],_,_,h,_=>h.elim
theorem ay3 (s:Nat) {x y:eX} (h:y.lo<=x.lo∧x.hi<=y.hi∧x.fr=y.fr∧x.to=y.to):OJ s 0 y<=OJ s 0 x:=by
 obtain ⟨h1,h2,h3,h4⟩:=h;unfold OJ;rw [h3,h4];split
 ·omega
 ·split<;>omega
theorem ay4 (s:Nat):∀{l r:List eX},DD l r->bK s r<=bK s l
 | [],[],_=>Int.le_refl _
 |x::l,y::r,h=>by
  have h1:=ay3 s h.1;have h2:=ay4 s h.2;rw [bI,bI];omega
 | [],_::_,h=>h.elim
 |_::_,[],h=>h.elim
theorem aw5 (s:Nat):∀{l r:List eX} {k:Nat} {x y:eX},DD l r->l[k]?=some x->r[k]?=some y->bK s r - OJ s 0 y<=bK s l - OJ s 0 x
 |x::l,y::r,0,z,u,h,e,f=>by
  obtain rfl:=aT e;obtain rfl:=aT f;have :=ay4 s h.2;rw [bI,bI];omega
 |x::l,y::r,k+1,z,u,h,e,f=>by
  have h1:=ay3 s h.1;have h2:=aw5 s (l:=l) (r:=r) (k:=k) h.2 e f;rw [bI,bI];omega
 | [],_,_,_,_,_,e,_=>by cases e
 |_::_,[],_,_,_,h,_,_=>h.elim
theorem az7 {l r:List eX} {nd k:Nat} {x:eX} (h:DD l r) (hx:l[k]?=some x):bJ (mG r nd) k<=bJ (mG l nd) k∧bH (mG l nd) k<=bH (mG r nd) k:=by
 obtain ⟨y,hy,n1,n2,n3,n4⟩:=h.at hx;obtain ⟨a,b,c,d, -, -⟩:=aw4 (nd:=nd) hx;obtain ⟨-, -, -, -,e,f⟩:=aw4 (nd:=nd) hy;rw [<-n3, <-n4] at e f;constructor
 ·rcases e with e|⟨s,hs,e1,e2⟩
  ·omega
  ·have h1:=aw5 s h hx hy;have h2:=c s hs e1;rw [bR] at e2 h2;unfold OJ at h1;rw [<-n3, <-n4,aj e1] at h1;omega
 ·rcases f with f|⟨s,hs,e1,e2⟩
  ·omega
  ·have h1:=aw5 s h hx hy;have h2:=d s hs e1;rw [bR] at e2 h2;have ne:¬kJ s x.fr x.to=1:=by rw [e1];decide
   unfold OJ at h1;rw [<-n3, <-n4,aa ne,aj e1] at h1;omega
theorem ay5 (b:dO) (x:jD) (hand:Int):DD (fA (bM b x) hand) (fA b hand):=ai1 (b:=bM b x) (c:=b) rfl rfl (r:=[x]) rfl hand
def bX (b:dO) (l:List jD):dO:={ b with dA:=l }
theorem az8 (p:Int) (x:Int×Int) (a b:jD):PU p (PU p x a) b=PU p (PU p x b) a:=by
 unfold PU
 by_cases h1:a.pile=p<;>by_cases h2:b.pile=p<;>simp [h1,h2]<;>omega
theorem aA3 {l m:List jD} (h:l.Perm m) (p:Int):je l p=je m p:=by
 unfold je;exact h.foldl_eq' (λa _ b _ z=>az8 p z a b) _
theorem aw8 {b:dO} {l:List jD} (h:l.Perm b.dA) (hand:Int):fA (bX b l) hand=fA b hand:=by
 have e:∀k,fq (bX b l) hand k=fq b hand k:= λk=>by
  induction k with
  |zero=>rfl
  |succ k ih=>unfold fq;rw [ih];rfl
 have f:∀p,mh (bX b l) p=mh b p:= λp=>by
  unfold mh;rw [show (bX b l).dA=l from rfl,aA3 h];rfl
 unfold fA eG;rw [e,show (bX b l).dz=b.dz from rfl,show (bX b l).steps=b.steps from rfl,List.map_congr_left λp _=>f p]
theorem av2 {np:Nat}:∀{l:List jD},(∀s∈l,(0<=s.pile∧s.pile<=(np:Int) - 1)∧eT s.lo s.hi 0 1000000=true)->ku np l=0
 | [],_=>rfl
 |s::r,h=>by
  obtain ⟨⟨h1,h2⟩,h3⟩:=h s aP;unfold ku;rw [aa (by simp [kH];omega),aa (by rw [h3];simp)];exact av2 λx hx=>h x (aQ _ hx)
theorem aw9 {b:dO} {l:List jD} (h:l.Perm b.dA) (hc:fG b=0):fG (bX b l)=0:=by
 obtain ⟨h1,h2,h3,h4,h5⟩:=EP hc;unfold fG;rw [aa (by show ¬dP b.dJ 4≠0;rw [h1];simp),aa (by show ¬dP b.dz 12≠0;rw [h2];simp),aa (by show ¬fB b≠0;rw [h3];simp)];rw [aa (by show ¬10<l.length;rw [h.length_eq];omega)];exact av2 λs hs=>CW h5 s (h.mem_iff.1 hs)
def swaps (f:Nat->Nat) (l:List jD):Nat->List jD
 |0=>l
 |i+1=>match (swaps f l i)[i]?,(swaps f l i)[f i]? with
  |some x,some y=>((swaps f l i).set i y).set (f i) x
  |_,_=>swaps f l i
theorem bO (f:Nat->Nat) (l:List jD):∀n,(swaps f l n).Perm l
 |0=>.refl _
 |n+1=>by
  unfold swaps;split
  ·rename_i x y h1 h2;obtain ⟨k1,e1⟩:=aY.1 h1;obtain ⟨k2,e2⟩:=aY.1 h2;subst e1;subst e2;exact (List.set_set_perm k1 k2).trans (bO f l n)
  ·exact bO f l n
end
end Go.Proofs
namespace Go.Proofs
open Go Go.RowKit Go.Maps
section
variable [Lo.St]
def av8 (x:jD):Value:=.agg #[.int .i64 x.pile,.int .i64 x.lo,.int .i64 x.hi]
def cells3 (l:List jD):List Value:=l.flatMap λx=>[.int .i64 x.pile,.int .i64 x.lo,.int .i64 x.hi]
theorem Rd.more {w:World} {B B' size n:Nat} {A:Option Addr} {f:Nat->Nat->Value} (h:Rd w B size A n f) (hB:B<=B'):Rd w B' size A n f:= λhn=>by
 obtain ⟨b,off,e,h1,h2⟩:=h hn;exact ⟨b,off,e,by omega,h2⟩
theorem fC.more {w:World} {B B':Nat} {b:dO} {v:gJ} (h:fC w B b v) (hB:B<=B'):fC w B' b v:=
 ⟨h.dJ.more hB,h.dz.more hB,h.steps.more hB, λi s e=>(h.ins i s e).more hB, λi s e=>(h.outs i s e).more hB,h.dA.more hB,h.lh,h.lp,h.ls,h.lc⟩
section
variable {P:Program} {w:World}
theorem bQ {ops:Array Oper} {o:Oper} {a:Act} {K:Act->World->Prop} {Q:Exit->Act->World->Prop} {E:Prop} (hgd:o.guard=none) (s x:Operand) (t:TypeId)
 (ho:o.op= .call { callee:=.builtin .append,args:= #[s,x],argTypes:= #[t,t] })
 (base:Nat) (e:TypeId) (i:TypeInfo) (z:Value) (size bytes:Nat) (ht:P.underlying t=some (.slice e)) (hi:P.info? e=some i) (hz:i.zero=some z)
 (hsize:i.size=size) (hby:i.bytes=bytes) (hzs:z.cells.size=size) (hsz:0<size)
 (v:Value) (n:Nat) (xs:List Value) (hs:a.eval s=v) (hown:w.ownsRow base e size v n xs)
 (A:Option Addr) (m c:Nat) (news:List Value) (hx:a.eval x= .slice A m c) (hl:news.length=m*size) (hnews:∀ad,A=some ad->∀j u,news[j]?=some u->w.cell? (ad.add j)=some u) (h0:A=none->m=0) (h1:∀u∈news,u.oneCell'=true)
 (h63:n+m<=maxLen) (hbytes:(n+m)*bytes<=140737488355328) (hbase:base<=w.heap.size)
 (h:∀v' w',w'.ownsRow base e size v' (n+m) (xs++news)->w.grownBy w' v.ownBlock->K (a.put o.dst v') w'):
 if Region.wanted o (yielded ops a.tmps)=true then Oper.wp P o a w K Q else E:=by
 cases A with
 |some ad=>exact Par.PK hgd s x t ho base e i z size bytes ht hi hz hsize hby hzs hsz v n xs hs hown ad m c news hx hl (hnews ad rfl) h1 h63 hbytes hbase h
 |none=>
  obtain rfl:=h0 rfl;obtain rfl:news= []:=List.eq_nil_of_length_eq_zero (by simpa using hl);have hw:Region.wanted o (yielded ops a.tmps)=true:=by simp [Region.wanted,hgd]
  rw [aj hw]
  have hrun:(Builtin.append_ #[t,t] o.type #[v,.slice none 0 c]).run P w= .ok v w:=by
   rcases hown.2 with ⟨rfl,rfl⟩|⟨g,cap,cur,rfl,_,_,hnc,_⟩
   ·simp [Builtin.append_,run_underlying ht,sizeOf,typeInfo,hi,Builtin.lenOf,Builtin.firstCells]
   ·simp [Builtin.append_,run_underlying ht,sizeOf,typeInfo,hi,Builtin.lenOf,Builtin.firstCells,hnc,storeCells]
  unfold Oper.wp execOp;simp only [ho,resolve,invoke,builtin,Sem.run_bind,Sem.run_pure,Result.andThen_ok,List.map_toArray,aC,List.map_nil,hs,hx,hrun];exact h _ _ (by rw [List.append_nil];exact hown) (pX _ _)
end
theorem bP (l:List jD):(cells3 l).length=l.length*3:=by
 induction l with
 |nil=>rfl
 |cons x l ih=>unfold cells3 at ih ⊢;simp only [List.flatMap_cons,List.length_append,ih];simp;omega
theorem bN (l:List jD) {i j:Nat} (hi:i<l.length) (hj:j<3):(cells3 l)[i*3+j]?=some (vD l i j):=by
 induction l generalizing i with
 |nil=>exact absurd hi (Nat.not_lt_zero _)
 |cons x l ih=>
  unfold cells3;simp only [List.flatMap_cons];rcases i with _|i
  ·obtain rfl|rfl|rfl:j=0∨j=1∨j=2:=by omega
   all_goals rfl
  ·rw [List.getElem?_append_right (by simp;omega),show (i+1)*3+j - [Value.int .i64 x.pile,.int .i64 x.lo,.int .i64 x.hi].length=i*3+j from by simp;omega];exact ih (by simpa using hi)
theorem bS {l:List jD} {u:Value} (h:u∈cells3 l):u.oneCell'=true:=by
 obtain ⟨x,_,h⟩:=List.mem_flatMap.1 h;simp only [bD,ax,or_false] at h;rcases h with rfl|rfl|rfl<;>rfl
theorem ax4 (l r:List jD):cells3 l++cells3 r=cells3 (l++r):=by unfold cells3;rw [List.flatMap_append]
theorem aA5 {Z:World} {p:Nat} {x0 x1 x2 x3 y0 y1 y2 y3:Value} {t:TypeId} (h:Z.heap[p]?=some (.cells #[x0,x1,x2,x3] t)):((((Z.setCell ⟨p,0,none⟩ y0).setCell ⟨p,1,none⟩ y1).setCell ⟨p,2,none⟩ y2).setCell ⟨p,3,none⟩ y3).heap[p]?=some (.cells #[y0,y1,y2,y3] t):=by
 rw [heap_setCell_same _ p 3 _ t _ (heap_setCell_same _ p 2 _ t _ (heap_setCell_same _ p 1 _ t _ (heap_setCell_same Z p 0 _ t _ h)))];rfl
theorem ax0 {P:Program} {c:Code} {Q:Exit->Act->World->Prop} {a:Act} {w:World} (R:Act->World->Prop) (h1:∀K:Act->World->Prop,(∀a w,R a w->K a w)->Code.wp P c (AO K) a w) (h2:∀a w,R a w->Q .normal a w):Code.wp P c Q a w:=Code.wp_mono AO.imp (h1 _ h2)
theorem Lo.ax5 {w:World} {B:Nat} {b:dO} {v:gJ} {x:Value} (hx:x=dY b v) (hb:fC w B b v) (hB:B<=w.heap.size) (hg:b.small) (s:jD):
 Calls Lo.prog 29 #[x,av8 s] w λe w'=>∃g q,e= .returned (.tuple #[dY (bM b s) { v with ac:=some ⟨g,0,none⟩,cc:=q },.bool (decide (b.dA.length+1<=10))])∧w.heap.size<=g∧(∀X:World,(∀k:Nat,k<B∨k=g->X.heap[k]?=w'.heap[k]?)->w'.heap.size<=X.heap.size->fC X X.heap.size (bM b s) { v with ac:=some ⟨g,0,none⟩,cc:=q })∧Below w.heap.size w w':=by
 obtain ⟨U,U2,U3,U4,U5,U6⟩:=Lo.facts;subst hx;show Calls Lo.prog 29 #[Value.agg (lN b v),av8 s] w _;unfold lN av8;go_enter Lo.get Tryz.func29,Tryz.ntmps29;go_wp2;obtain ⟨Y,hY⟩:∃Y,((((w.alloc (.cells #[.slice v.ah b.dJ.length v.ch,.slice v.ap b.dz.length v.cp,.slice v.iT b.steps.length v.cs,.slice v.ac b.dA.length v.cc] 26)).alloc (.cells #[.int .i64 s.pile,.int .i64 s.lo,.int .i64 s.hi] 59)).alloc (.cells #[.slice none 0 0,.slice none 0 0,.slice none 0 0,.slice none 0 0] 26)).alloc (.cells #[.slice v.ah b.dJ.length v.ch,.slice v.ap b.dz.length v.cp,.slice v.iT b.steps.length v.cs,.slice v.ac b.dA.length v.cc] 26))=Y:=⟨_,rfl⟩;have bW:Below w.heap.size w Y:=hY ▸ ((((di _ _).alloc (aJ _) _).alloc (by simp) _).alloc (by simp;omega) _).alloc (by simp;omega) _;have sY:Y.heap.size=w.heap.size+4:=by rw [<-hY];simp
 have g0:Y.heap[w.heap.size]?=some (.cells #[.slice v.ah b.dJ.length v.ch,.slice v.ap b.dz.length v.cp,.slice v.iT b.steps.length v.cs,.slice v.ac b.dA.length v.cc] 26):=by
  rw [<-hY,cZ _ _ _ (by simp;omega),cZ _ _ _ (by simp;omega),cZ _ _ _ (by simp)];exact cK _ _
 have g1:Y.heap[w.heap.size+1]?=some (.cells #[.int .i64 s.pile,.int .i64 s.lo,.int .i64 s.hi] 59):=by
  rw [<-hY,cZ _ _ _ (by simp),cZ _ _ _ (by simp)];have :=cK (w.alloc (.cells #[.slice v.ah b.dJ.length v.ch,.slice v.ap b.dz.length v.cp,.slice v.iT b.steps.length v.cs,.slice v.ac b.dA.length v.cc] 26)) (.cells #[.int .i64 s.pile,.int .i64 s.lo,.int .i64 s.hi] 59)
  rwa [World.size_alloc] at this
 have g3:Y.heap[w.heap.size+3]?=some (.cells #[.slice v.ah b.dJ.length v.ch,.slice v.ap b.dz.length v.cp,.slice v.iT b.steps.length v.cs,.slice v.ac b.dA.length v.cc] 26):=by
  rw [<-hY];have :=cK ((((w.alloc (.cells #[.slice v.ah b.dJ.length v.ch,.slice v.ap b.dz.length v.cp,.slice v.iT b.steps.length v.cs,.slice v.ac b.dA.length v.cc] 26)).alloc (.cells #[.int .i64 s.pile,.int .i64 s.lo,.int .i64 s.hi] 59)).alloc (.cells #[.slice none 0 0,.slice none 0 0,.slice none 0 0,.slice none 0 0] 26))) (.cells #[.slice v.ah b.dJ.length v.ch,.slice v.ap b.dz.length v.cp,.slice v.iT b.steps.length v.cs,.slice v.ac b.dA.length v.cc] 26)
  rwa [World.size_alloc,World.size_alloc,World.size_alloc] at this
 have g2:Y.heap[w.heap.size+2]?=some (.cells #[.slice none 0 0,.slice none 0 0,.slice none 0 0,.slice none 0 0] 26):=by
  rw [<-hY,cZ _ _ _ (by simp)];have :=cK ((w.alloc (.cells #[.slice v.ah b.dJ.length v.ch,.slice v.ap b.dz.length v.cp,.slice v.iT b.steps.length v.cs,.slice v.ac b.dA.length v.cc] 26)).alloc (.cells #[.int .i64 s.pile,.int .i64 s.lo,.int .i64 s.hi] 59)) (.cells #[.slice none 0 0,.slice none 0 0,.slice none 0 0,.slice none 0 0] 26)
  rwa [World.size_alloc,World.size_alloc] at this
 rw [hY];clear hY;obtain ⟨i0,hi,hz0,hz1,hz2⟩:=info_parts Lo.YS;have hsc:=hg.dA
 have hown0:∀X:World,Y.heap.size<=X.heap.size->(X.alloc (.cells #[] 59)).ownsRow Y.heap.size 59 3 (.slice (some ⟨X.heap.size,0,none⟩) 0 0) 0 []:= λX hX=>by
  refine ⟨rfl,.inr ⟨X.heap.size,0,#[],rfl,hX,cK _ _,aJ _,?_,?_,?_⟩⟩
  all_goals simp
 have hn1:∀X:World,Below w.heap.size w X->∀ad,v.ac=some ad->∀j u,(cells3 b.dA)[j]?=some u->X.cell? (ad.add j)=some u:= λX hX ad e j u hu=>by
  have hl:=(aY.1 hu).1;rw [bP] at hl;obtain ⟨bb,off,e',hbb,hc⟩:=hb.dA (by omega);rw [e] at e';cases e';have h1:=hc (j / 3) (j%3) (by omega) (Nat.mod_lt _ (by decide));have h2:=bN b.dA (i:=j / 3) (j:=j%3) (by omega) (Nat.mod_lt _ (by decide));rw [show j / 3*3+j%3=j by omega] at h1 h2;rw [h2] at hu;rw [<-hu, <-h1,show (⟨bb,off,none⟩:Addr).add j=⟨bb,off+j,none⟩ from by unfold Addr.add;split<;>simp_all];exact dH hX bb _ (by omega)
 have hn0:v.ac=none->b.dA.length=0:= λe=>by
  by_cases h:0<b.dA.length
  ·obtain ⟨bb,off,e',_⟩:=hb.dA h;rw [e] at e';cases e'
  ·omega
 have HB:=dw (aM hb (aM bW (aM g0 (aM g1 (aM g3 (aM hown0 (aM hn1 (aM hn0 g2))))))));have c0:=cell_of g0 3;obtain ⟨d0,d1,d2⟩:Y.cell? ⟨w.heap.size+1,0,none⟩=some (.int .i64 s.pile)∧Y.cell? ⟨w.heap.size+1,1,none⟩=some (.int .i64 s.lo)∧Y.cell? ⟨w.heap.size+1,2,none⟩=some (.int .i64 s.hi):=⟨cell_of g1 0,cell_of g1 1,cell_of g1 2⟩;have c3:=cell_of g3 3;have f3:Y.frozen? ⟨w.heap.size+3,3,none⟩=false:=by unfold World.frozen?;simp only [g3];rfl
 obtain ⟨n,hn⟩:∃n,b.dA.length=n:=⟨_,rfl⟩;rw [hn];rw [hn] at c0 c3 hsc;have HN:=dw hn;have ho1:(Y.alloc (.cells #[] 59)).drew.ownsRow Y.heap.size 59 3 (.slice (some ⟨w.heap.size+4,0,none⟩) 0 0) 0 []:=by rw [<-sY];exact (hown0 Y (aJ _)).drew
 have ho2:((Y.alloc (.cells #[] 59)).alloc (.cells #[.int .i64 s.pile,.int .i64 s.lo,.int .i64 s.hi] 59)).drew.ownsRow Y.heap.size 59 3 (.slice (some ⟨w.heap.size+4,0,none⟩) 0 0) 0 []:=by rw [<-sY];exact ((hown0 Y (aJ _)).alloc _).drew
 have ho3:((Y.alloc (.cells #[.int .i64 s.pile,.int .i64 s.lo,.int .i64 s.hi] 59)).alloc (.cells #[] 59)).drew.ownsRow Y.heap.size 59 3 (.slice (some ⟨w.heap.size+4+1,0,none⟩) 0 0) 0 []:=by
  have :=hown0 (Y.alloc (.cells #[.int .i64 s.pile,.int .i64 s.lo,.int .i64 s.hi] 59)) (by simp);rw [World.size_alloc,sY] at this;rw [sY];exact this.drew
 have ho4:((Y.alloc (.cells #[] 59)).alloc (.cells #[.int .i64 s.pile,.int .i64 s.lo,.int .i64 s.hi] 59)).heap[w.heap.size+4+1]?=some (.cells #[.int .i64 s.pile,.int .i64 s.lo,.int .i64 s.hi] 59):=by
  have :=cK (Y.alloc (.cells #[] 59)) (.cells #[.int .i64 s.pile,.int .i64 s.lo,.int .i64 s.hi] 59)
  rwa [World.size_alloc,sY] at this
 have PV:((Y.alloc (.cells #[.int .i64 s.pile,.int .i64 s.lo,.int .i64 s.hi] 59)).alloc (.cells #[] 59)).heap[w.heap.size+4]?=some (.cells #[.int .i64 s.pile,.int .i64 s.lo,.int .i64 s.hi] 59):=by
  rw [cZ _ _ _ (by simp;omega), <-sY];exact cK _ _
 have HO:=dw (aM ho1 (aM ho2 (aM ho3 (aM ho4 PV))));clear hb bW g0 g1 g2 g3 hown0 hn1 hn0 hn ho1 ho2 ho3 ho4 PV
 apply ax0 (λa' w'=>∃t8 t11 t13 A q,a'=⟨#[.agg #[.slice v.ah b.dJ.length v.ch,.slice v.ap b.dz.length v.cp,.slice v.iT b.steps.length v.cs,.slice v.ac n v.cc],.agg #[.int .i64 s.pile,.int .i64 s.lo,.int .i64 s.hi],.pointer (some ⟨w.heap.size,0,none⟩),.pointer (some ⟨w.heap.size+1,0,none⟩),.pointer (some ⟨w.heap.size+1+1,0,none⟩),.bool false,.pointer (some ⟨w.heap.size+1+1+1,0,none⟩),.agg #[.slice v.ah b.dJ.length v.ch,.slice v.ap b.dz.length v.cp,.slice v.iT b.steps.length v.cs,.slice v.ac n v.cc],t8,.pointer (some ⟨w.heap.size,3,none⟩),.slice v.ac n v.cc,t11,.agg #[.int .i64 s.pile,.int .i64 s.lo,.int .i64 s.hi],t13,.slice A (n+1) q,.pointer (some ⟨w.heap.size+1+1+1,3,none⟩),undef,undef,undef,undef,undef],[]⟩∧
  ∃w2:World,w'=w2.setCell ⟨w.heap.size+1+1+1,3,none⟩ (.slice A (n+1) q)∧w2.ownsRow Y.heap.size 59 3 (.slice A (n+1) q) (n+1) (cells3 (b.dA++ [s]))∧Below Y.heap.size Y w2)
 case h1=>
  intro Q' hK
  go_region_law (first
   |(refine bQ rfl (.tmp 8) (.tmp 10) 24 rfl Y.heap.size 59 i0 (.agg #[.int .i64 0,.int .i64 0,.int .i64 0]) 3 24 Lo.Xi hi hz0 hz1 hz2 rfl (by decide) (.slice (some ⟨_,0,none⟩) 0 0) 0 [] rfl ?ho v.ac n v.cc (cells3 b.dA) rfl ?hl ?hn ?h0 (λu hu=>bS hu) (by unfold maxLen;omega) (by omega) ?hb ?_
     case ho=>first
      |exact HO.out.1
      |exact HO.out.2.1
      |exact HO.out.2.2.1
     case hl=>rw [bP,HN.out]
     case hn=>exact HB.out.2.2.2.2.2.2.1 _ (HB.out.2.1.trans (Below.mono (by first |exact ((di _ _).alloc (aJ _) _).drew|exact (((di _ _).alloc (aJ _) _).alloc (by simp) _).drew) (by omega)))
     case h0=>intro e;rw [<-HN.out];exact HB.out.2.2.2.2.2.2.2.1 e
     case hb=>first |(simp;done)|(simp;omega)
     intro v1 w1 a1 a2;have hb1:Below Y.heap.size Y w1:=Below.grown ?hb0 a2 (by first |(simp;done)|(simp;omega)) (λj hj=>by simp [Value.ownBlock] at hj;omega)
     case hb0=>first
      |exact ((di _ _).alloc (aJ _) _).drew
      |exact (((di _ _).alloc (aJ _) _).alloc (by simp) _).drew
     have e0:=(dH hb1 (w.heap.size+1) 0 (by omega)).trans d0;have e1:=(dH hb1 (w.heap.size+1) 1 (by omega)).trans d1;have e2:=(dH hb1 (w.heap.size+1) 2 (by omega)).trans d2;have H1:=dw (aM hb1 (aM a1 a2));have s1:=hb1.size;clear hb1 a1 a2)
   |(refine bQ rfl (.tmp 11) (.tmp 13) 24 rfl Y.heap.size 59 i0 (.agg #[.int .i64 0,.int .i64 0,.int .i64 0]) 3 24 Lo.Xi hi hz0 hz1 hz2 rfl (by decide) _ (0+n) ([]++cells3 b.dA) rfl ?ho (some ⟨_,0,none⟩) 1 1 (cells3 [s]) rfl rfl ?hn (λe=>by cases e) (λu hu=>bS hu) (by unfold maxLen;omega) (by omega) ?hb ?_
     case ho=>first
      |exact H1.out.2.1.alloc _
      |exact H1.out.2.1
     case hn=>
      intro ad e;cases e;refine World.news_of_block (t:=59) (fr:=(0,0)) (cs:= #[.int .i64 s.pile,.int .i64 s.lo,.int .i64 s.hi]) ?_
      first
       |exact cK _ _
       |exact (H1.out.2.2.block _ (by simp;omega) (by simp [Value.ownBlock])).trans HO.out.2.2.2.1
       |exact (H1.out.2.2.block _ (by simp;omega) (by simp [Value.ownBlock])).trans HO.out.2.2.2.2
     case hb=>first
      |exact s1
      |(simp;omega)
     intro v2 w2 a1 a2;obtain ⟨g,q,rfl, -, -⟩:=ownsRow.shape a1 (by omega);have hb2:Below Y.heap.size Y w2:=Below.grown ?hb0 a2 ?hsz (λj hj=>(H1.out.2.1.lt j hj).1)
     case hb0=>first
      |exact H1.out.1
      |exact (H1.out.1.alloc s1 _)
     case hsz=>first
      |exact s1
      |(simp;omega)
     have e3:=(dH hb2 (w.heap.size+1+1+1) 3 (by omega)).trans c3
     have fz:w2.frozen? ⟨w.heap.size+1+1+1,3,none⟩=false:=by
      have :=(hb2.block (w.heap.size+1+1+1) (by omega)).trans HB.out.2.2.2.2.1;unfold World.frozen?;simp only [this];rfl
     have H2:=dw (aM hb2 a1);clear hb2 a1 a2))
  all_goals exact hK _ _ ⟨_,_,_,_,_,rfl,_,rfl,(by have h:=H2.out.2;rw [List.nil_append,ax4,Nat.zero_add] at h;exact h),H2.out.1⟩
 case h2=>
  rintro a' w' ⟨t8,t11,t13,A,q,rfl,w2,rfl,hown,hb2⟩;have hl:(b.dA++ [s]).length=n+1:=by rw [List.length_append,HN.out];rfl
  obtain ⟨A',q',e,hq,hr⟩:=ownsRow.rd (B:=w2.heap.size) (f:=vD (b.dA++ [s])) hown (λi j hi hj=>bN _ (by omega) hj);cases e;have hr:=hr (n+1) (aJ _) (aJ _);obtain ⟨Z,hZ⟩:∃Z,w2.setCell ⟨w.heap.size+1+1+1,3,none⟩ (.slice A (n+1) q)=Z:=⟨_,rfl⟩;have D7:∀k:Nat,k≠w.heap.size+3->Z.heap[k]?=w2.heap[k]?:= λk hk=>by rw [<-hZ];exact Below.heap_setCell w2 ⟨w.heap.size+3,3,none⟩ _ k hk
  have sZ:Z.heap.size=w2.heap.size:=by rw [<-hZ];simp [World.setCell]
  have z3:Z.heap[w.heap.size+3]?=some (.cells #[.slice v.ah b.dJ.length v.ch,.slice v.ap b.dz.length v.cp,.slice v.iT b.steps.length v.cs,.slice A (n+1) q] 26):=by
   rw [<-hZ,heap_setCell_same w2 (w.heap.size+3) 3 _ 26 _ ((hb2.block _ (by omega)).trans HB.out.2.2.2.2.1)];rfl
  have z2:Z.heap[w.heap.size+2]?=some (.cells #[.slice none 0 0,.slice none 0 0,.slice none 0 0,.slice none 0 0] 26):=(D7 _ (by omega)).trans ((hb2.block _ (by omega)).trans HB.out.2.2.2.2.2.2.2.2)
  rw [hZ];obtain ⟨g,q',e,hg1,hg2⟩:=ownsRow.shape hown (by omega);cases e
  have hbk:∀X:World,(∀k:Nat,k<B∨k=g->X.heap[k]?=w2.heap[k]?)->w2.heap.size<=X.heap.size->fC X X.heap.size (bM b s) { v with ac:=some ⟨g,0,none⟩,cc:=q }:= λX hX hXs=>by
   have h:=(HB.out.1.keep (w':=X) λd o h=>(dm (a:=⟨d,o,none⟩) (hX d (.inl h))).trans ((dH hb2 d o (by omega)).trans (dH HB.out.2.1 d o (by omega)))).more (B':=X.heap.size) (by have :=hb2.size;omega);refine ⟨h.dJ,h.dz,h.steps,h.ins,h.outs, λhn=>?_,h.lh,h.lp,h.ls,by show (b.dA++ [s]).length<=q;omega⟩;obtain ⟨bb,off,e,h1,h2⟩:=hr (by omega);cases e;exact ⟨_,_,rfl,by omega, λi j hi hj=>(dm (a:=⟨g,0+(i*3+j),none⟩) (hX g (.inr rfl))).trans (h2 i j (by rw [<-hl];exact hi) hj)⟩
  have bZ:Below w.heap.size w Z:=by
   rw [<-hZ];exact (HB.out.2.1.trans (hb2.mono (by omega))).setCell (p:=⟨w.heap.size+1+1+1,3,none⟩) (by show w.heap.size<=w.heap.size+1+1+1;omega) _
  obtain ⟨e0,e1,e2,e3⟩:Z.cell? ⟨w.heap.size+1+1+1,0,none⟩=some (.slice v.ah b.dJ.length v.ch)∧Z.cell? ⟨w.heap.size+1+1+1,1,none⟩=some (.slice v.ap b.dz.length v.cp)∧Z.cell? ⟨w.heap.size+1+1+1,2,none⟩=some (.slice v.iT b.steps.length v.cs)∧Z.cell? ⟨w.heap.size+1+1+1,3,none⟩=some (.slice (some ⟨g,0,none⟩) (n+1) q):=⟨cell_of z3 0,cell_of z3 1,cell_of z3 2,cell_of z3 3⟩;obtain ⟨x0,x1,x2,x3⟩:Z.cell? ⟨w.heap.size+1+1,0,none⟩=some (.slice none 0 0)∧Z.cell? ⟨w.heap.size+1+1,1,none⟩=some (.slice none 0 0)∧Z.cell? ⟨w.heap.size+1+1,2,none⟩=some (.slice none 0 0)∧Z.cell? ⟨w.heap.size+1+1,3,none⟩=some (.slice none 0 0):=⟨cell_of z2 0,cell_of z2 1,cell_of z2 2,cell_of z2 3⟩;have fz:∀j,Z.frozen? ⟨w.heap.size+1+1,j,none⟩=false:= λj=>by unfold World.frozen?;simp only [z2];simp
  have fz0:=fz 0;have fz1:=fz 1;have fz2:=fz 2;have fz3:=fz 3;have HZ:=dw (aM hbk (aM bZ (aM hl (aM z2 (aM D7 sZ)))));clear hbk bZ D7 hl hr hown hZ z3 z2 fz;go_wp2
  go_region
  obtain ⟨V,hV⟩:∃V,(((Z.setCell ⟨w.heap.size+1+1,0,none⟩ (.slice v.ah b.dJ.length v.ch)).setCell ⟨w.heap.size+1+1,1,none⟩ (.slice v.ap b.dz.length v.cp)).setCell ⟨w.heap.size+1+1,2,none⟩ (.slice v.iT b.steps.length v.cs)).setCell ⟨w.heap.size+1+1,3,none⟩ (.slice (some ⟨g,0,none⟩) (n+1) q)=V:=⟨_,rfl⟩;rw [hV];have v2:V.heap[w.heap.size+1+1]?=_:=hV ▸ aA5 HZ.out.2.2.2.1
  have le2:w.heap.size<=w.heap.size+1+1:=by omega
  have bV:Below w.heap.size w V.drew:=by
   rw [<-hV];exact ((((HZ.out.2.1.setCell (p:=⟨w.heap.size+1+1,0,none⟩) le2 _).setCell (p:=⟨w.heap.size+1+1,1,none⟩) le2 _).setCell (p:=⟨w.heap.size+1+1,2,none⟩) le2 _).setCell (p:=⟨w.heap.size+1+1,3,none⟩) le2 _).drew
  have oV:∀k:Nat,k≠w.heap.size+2->V.heap[k]?=Z.heap[k]?:= λk hk=>by
   rw [<-hV,Below.heap_setCell _ ⟨w.heap.size+1+1,3,none⟩ _ k hk,Below.heap_setCell _ ⟨w.heap.size+1+1,2,none⟩ _ k hk,Below.heap_setCell _ ⟨w.heap.size+1+1,1,none⟩ _ k hk,Below.heap_setCell _ ⟨w.heap.size+1+1,0,none⟩ _ k hk]
  have sV:V.heap.size=Z.heap.size:=by rw [<-hV];simp [World.setCell]
  have kV:∀X:World,(∀k:Nat,k<B∨k=g->X.heap[k]?=V.drew.heap[k]?)->V.drew.heap.size<=X.heap.size->fC X X.heap.size (bM b s) { v with ac:=some ⟨g,0,none⟩,cc:=q }:= λX hX hs=>HZ.out.1 X (λk hk=>(hX k hk).trans ((oV k (by omega)).trans (HZ.out.2.2.2.2.1 k (by omega)))) (aS (by show _<=V.heap.size;rw [sV,HZ.out.2.2.2.2.2];exact aJ _) hs)
  obtain ⟨y0,y1,y2,y3⟩:=zY (X:=V.drew) v2;have HV:=dw (aM bV kV);clear e0 e1 e2 e3 x0 x1 x2 x3 fz0 fz1 fz2 fz3 hV v2 bV oV sV kV;go_wp2;have hf:Tryz.f29.results= #[ResultVar.cell 4 26,ResultVar.tmp 5]:=by unfold Tryz.f29;rfl
  refine bodyPost_ret (v:=.tuple #[.agg #[.slice v.ah b.dJ.length v.ch,.slice v.ap b.dz.length v.cp,.slice v.iT b.steps.length v.cs,.slice (some ⟨g,0,none⟩) (n+1) q],.bool (decide ((n:Int)+1<=10))]) ?_ rfl ⟨g,q,?_,by omega,?_,?_⟩
  ·simp [results,hf,go_sem,U,U2,U3,U4,U5,U6,y0,y1,y2,y3]
  ·have e1:(bM b s).dA.length=n+1:=HZ.out.2.2.1;unfold dY;rw [e1];have e2:decide ((n:Int)+1<=10)=decide (n+1<=10):=by simp;omega
   rw [e2,HN.out];rfl
  ·exact HV.out.2
  ·exact HV.out.1
end
end Go.Proofs
