/- Part 1. -/
import Derived.Test.YtnemnkmojiljmaaGreatH29
import Derived.BigQuiet
import Derived.RangeFuncRecord
set_option maxRecDepth 100000
set_option maxHeartbeats 0
set_option linter.all false
section
namespace Go.Proofs
open Go Go.RowKit
variable [Lo.St]
def lO9 (o:List Int) (k:Nat):Int:=(o[2*k]?).getD 0
def hI9 (o:List Int) (k:Nat):Int:=(o[2*k+1]?).getD 0
def loS (ss:List eX) (s:Nat) (x:eX) (a:Int):Int:=if kJ s x.fr x.to=1 then max a (gM ss s+x.hi) else a
def hiS (ss:List eX) (s:Nat) (x:eX) (a:Int):Int:=if kJ s x.fr x.to=2 then min a (x.lo - gM ss s) else a
theorem spanAt_at {ss:List eX} {s:Nat} {o:List Int} (ho:o.length=2*ss.length) {j k:Nat} {x:eX} (hx:ss[j]?=some x):
 lO9 (xm ss s o j) k=(if k=j then loS ss s x (lO9 o k) else lO9 o k)∧hI9 (xm ss s o j) k=if k=j then hiS ss s x (hI9 o k) else hI9 o k:=by
 have hj:=(List.getElem?_eq_some_iff.1 hx).1;unfold xm;rw [hx];dsimp only;unfold lO9 hI9 loS hiS
 by_cases e:k=j
 ·subst e;rw [if_pos rfl,if_pos rfl]
  by_cases h1:kJ s x.fr x.to=1
  ·rw [if_pos h1,if_pos h1,if_neg (by rw [h1];decide),List.getElem?_set_self (by omega),List.getElem?_set_ne (by omega)];exact ⟨rfl,rfl⟩
  ·rw [if_neg h1,if_neg h1]
   by_cases h2:kJ s x.fr x.to=2
   ·rw [if_pos h2,if_pos h2,List.getElem?_set_self (by omega),List.getElem?_set_ne (by omega)];exact ⟨rfl,rfl⟩
   ·rw [if_neg h2,if_neg h2];exact ⟨rfl,rfl⟩
 ·rw [if_neg e,if_neg e];split
  ·rw [List.getElem?_set_ne (by omega),List.getElem?_set_ne (by omega)];exact ⟨rfl,rfl⟩
  ·split
   ·rw [List.getElem?_set_ne (by omega),List.getElem?_set_ne (by omega)];exact ⟨rfl,rfl⟩
   ·exact ⟨rfl,rfl⟩
theorem rowTo_at {ss:List eX} {s:Nat} {o:List Int} (ho:o.length=2*ss.length) {k:Nat} {x:eX} (hx:ss[k]?=some x):∀j,j<=ss.length->
 lO9 (tX ss s o j) k=(if k<j then loS ss s x (lO9 o k) else lO9 o k)∧hI9 (tX ss s o j) k=if k<j then hiS ss s x (hI9 o k) else hI9 o k
 |0,_=>⟨rfl,rfl⟩
 |j+1,hj=>by
  obtain ⟨h1,h2⟩:=rowTo_at ho hx (s:=s) j (by omega);obtain ⟨h3,h4⟩:=spanAt_at (s:=s) (o:=tX ss s o j) ((zN ss s o j).trans ho) (k:=k) (List.getElem?_eq_getElem (show j<ss.length by omega));unfold tX;rw [h3,h4,h1,h2]
  by_cases e:k=j
  ·subst e;rw [List.getElem?_eq_getElem (show k<ss.length by omega)] at hx;have hx:=Option.some.inj hx;rw [hx];simp
  ·by_cases hlt:k<j
   ·rw [if_neg e,if_neg e,if_pos hlt,if_pos (by omega),if_pos hlt,if_pos (by omega)];exact ⟨rfl,rfl⟩
   ·rw [if_neg e,if_neg e,if_neg hlt,if_neg (by omega),if_neg hlt,if_neg (by omega)];exact ⟨rfl,rfl⟩
theorem initTo_at {ss:List eX} {k:Nat} {x:eX} (hx:ss[k]?=some x):∀j,j<=ss.length->k<j->lO9 (nY ss j) k=x.lo∧hI9 (nY ss j) k=x.hi
 |j+1,hj,hk=>by
  have hl:=CR ss j (by omega);unfold nY lO9 hI9;rw [List.getElem?_eq_getElem (show j<ss.length by omega)];dsimp only
  by_cases e:k=j
  ·subst e;rw [List.getElem?_eq_getElem (show k<ss.length by omega)] at hx;rw [Option.some.inj hx];rw [List.getElem?_append_right (by omega),List.getElem?_append_right (by omega),hl];simp
  ·rw [List.getElem?_append_left (by omega),List.getElem?_append_left (by omega)];exact initTo_at hx j (by omega) (by omega)
theorem sh1_add (s:Nat) (n:Int) (x:eX):OJ s n x=n+OJ s 0 x:=by
 unfold OJ;split
 ·omega
 ·split<;>omega
end Go.Proofs
end
section
namespace Go.Proofs
open Go Go.RowKit Go.Maps
section
variable {P:Program} {w:World}
end
end Go.Proofs
end
section
namespace Go.Proofs
open Go Go.RowKit
variable [Lo.St]
structure Ends (ss:List eX) (m:Nat) (x:eX) (l h:Int):Prop where
 l0:x.lo<=l
 h0:h<=x.hi
 l1:∀s,s<m->kJ s x.fr x.to=1->gM ss s+x.hi<=l
 h1:∀s,s<m->kJ s x.fr x.to=2->h<=x.lo - gM ss s
 l2:l=x.lo∨∃s,s<m∧kJ s x.fr x.to=1∧l=gM ss s+x.hi
 h2:h=x.hi∨∃s,s<m∧kJ s x.fr x.to=2∧h=x.lo - gM ss s
theorem ends_sets {ss:List eX} {k:Nat} {x:eX} (hx:ss[k]?=some x):∀m,Ends ss m x (lO9 (nA ss m) k) (hI9 (nA ss m) k)
 |0=>by
  obtain ⟨h1,h2⟩:=initTo_at hx ss.length (Nat.le_refl _) (List.getElem?_eq_some_iff.1 hx).1;unfold nA;rw [h1,h2];exact ⟨Int.le_refl _,Int.le_refl _, λs h=>absurd h (Nat.not_lt_zero _), λs h=>absurd h (Nat.not_lt_zero _),.inl rfl,.inl rfl⟩
 |m+1=>by
  obtain ⟨a,b,c,d,e,f⟩:=ends_sets hx m;obtain ⟨h1,h2⟩:=rowTo_at (s:=m) (o:=nA ss m) (pV ss m) hx ss.length (Nat.le_refl _);have hk:=(List.getElem?_eq_some_iff.1 hx).1;unfold nA;rw [h1,h2,if_pos hk,if_pos hk];generalize lO9 (nA ss m) k=l at *;generalize hI9 (nA ss m) k=h at *;have hl:l<=loS ss m x l:=by unfold loS;split<;>omega
  have hh:hiS ss m x h<=h:=by unfold hiS;split<;>omega
  refine ⟨by omega,by omega, λs hs h=>?_, λs hs h=>?_,?_,?_⟩
  ·by_cases q:s=m
   ·subst q;unfold loS;rw [if_pos h];omega
   ·have :=c s (by omega) h;omega
  ·by_cases q:s=m
   ·subst q;unfold hiS;rw [if_pos h];omega
   ·have :=d s (by omega) h;omega
  ·have e':l=x.lo∨∃s,s<m+1∧kJ s x.fr x.to=1∧l=gM ss s+x.hi:=e.imp id λ⟨s,h1,h2⟩=>⟨s,by omega,h2⟩
   unfold loS;split
   ·rename_i h;rcases Int.le_total (gM ss m+x.hi) l with q|q
    ·rw [Int.max_eq_left q];exact e'
    ·rw [Int.max_eq_right q];exact .inr ⟨m,by omega,h,rfl⟩
   ·exact e'
  ·have f':h=x.hi∨∃s,s<m+1∧kJ s x.fr x.to=2∧h=x.lo - gM ss s:=f.imp id λ⟨s,h1,h2⟩=>⟨s,by omega,h2⟩
   unfold hiS;split
   ·rename_i h3;rcases Int.le_total h (x.lo - gM ss m) with q|q
    ·rw [Int.min_eq_left q];exact f'
    ·rw [Int.min_eq_right q];exact .inr ⟨m,by omega,h3,rfl⟩
   ·exact f'
theorem ends_of {ss:List eX} {nd k:Nat} {x:eX} (hx:ss[k]?=some x):Ends ss (2 ^ nd) x (lO9 (mG ss nd) k) (hI9 (mG ss nd) k):=ends_sets hx _
def sumC (s:Nat):List eX->Int
 | []=>0
 |x::l=>OJ s 0 x+sumC s l
theorem sumC_cons (s:Nat) (x:eX) (l:List eX):sumC s (x::l)=OJ s 0 x+sumC s l:=rfl
theorem short_sum (ss:List eX) (s:Nat):gM ss s=sumC s ss:=by
 have :∀(l:List eX) (n:Int),l.foldl (OJ s) n=n+sumC s l:=by
  intro l
  induction l with
  |nil=>intro n;simp [sumC]
  |cons x l ih=>intro n;rw [List.foldl_cons,ih,sh1_add];show _=n+(OJ s 0 x+sumC s l);omega
 have h:=this ss 0;unfold gM;omega
theorem bit_or (s t i:Nat):bit (s|||t) i=max (bit s i) (bit t i):=by
 have h:∀n:Nat,bit n i=(n.testBit i).toNat:= λn=>by
  unfold bit;rw [Nat.testBit_eq_decide_div_mod_eq]
  have :n / 2 ^ i%2<2:=Nat.mod_lt _ (by decide)
  by_cases e:n / 2 ^ i%2=1<;>simp [e]<;>omega
 rw [h,h,h,Nat.testBit_or];cases s.testBit i<;>cases t.testBit i<;>rfl
theorem bit_and (s t i:Nat):bit (s&&& t) i=min (bit s i) (bit t i):=by
 have h:∀n:Nat,bit n i=(n.testBit i).toNat:= λn=>by
  unfold bit;rw [Nat.testBit_eq_decide_div_mod_eq]
  have :n / 2 ^ i%2<2:=Nat.mod_lt _ (by decide)
  by_cases e:n / 2 ^ i%2=1<;>simp [e]<;>omega
 rw [h,h,h,Nat.testBit_and];cases s.testBit i<;>cases t.testBit i<;>rfl
theorem two_one (s t:Nat) (x:eX) (h:x.lo<=x.hi):OJ s 0 x+OJ t 0 x<=OJ (s|||t) 0 x+OJ (s&&& t) 0 x∧(kJ s x.fr x.to=1->kJ t x.fr x.to=2->OJ s 0 x+OJ t 0 x+(x.hi - x.lo)<=OJ (s|||t) 0 x+OJ (s&&& t) 0 x):=by
 unfold OJ kJ;rw [bit_or,bit_and,bit_or,bit_and];have a:=KG s x.fr;have b:=KG s x.to;have c:=KG t x.fr;have d:=KG t x.to;generalize bit s x.fr=p at *;generalize bit s x.to=q at *;generalize bit t x.fr=u at *;generalize bit t x.to=v at *;rcases (by omega:p=0∨p=1) with rfl|rfl<;>rcases (by omega:q=0∨q=1) with rfl|rfl<;>rcases (by omega:u=0∨u=1) with rfl|rfl<;>rcases (by omega:v=0∨v=1) with rfl|rfl<;>simp <;>omega
theorem two_sum (s t:Nat):∀(ss:List eX),(∀x∈ss,x.lo<=x.hi)->sumC s ss+sumC t ss<=sumC (s|||t) ss+sumC (s&&& t) ss∧∀x∈ss,kJ s x.fr x.to=1->kJ t x.fr x.to=2->sumC s ss+sumC t ss+(x.hi - x.lo)<=sumC (s|||t) ss+sumC (s&&& t) ss
 | [],_=>⟨Int.le_refl _, λx h=>by cases h⟩
 |y::l,h=>by
  obtain ⟨h1,h2⟩:=two_sum s t l λx hx=>h x (List.mem_cons_of_mem _ hx)
  obtain ⟨h3,h4⟩:=two_one s t y (h y List.mem_cons_self);refine ⟨by unfold sumC;omega, λx hx a b=>?_⟩;rcases List.mem_cons.1 hx with rfl|hx
  ·have :=h4 a b;unfold sumC;omega
  ·have :=h2 x hx a b;unfold sumC;omega
theorem holds_parts {ss:List eX} {nd:Nat} (h:gN ss nd=true):(∀x∈ss,x.lo<=x.hi)∧∀s,s<2 ^ nd->gM ss s<=0:=by
 unfold gN iQ sV at h;rw [Bool.and_eq_true,Bool.not_eq_true',List.any_eq_false,List.all_eq_true] at h;exact ⟨λx hx=>by have :=h.1 x hx;simp at this;omega, λs hs=>by have :=h.2 s (List.mem_range.2 hs);simpa using this⟩
theorem holds_mk {ss:List eX} {nd:Nat} (h:∀x∈ss,x.lo<=x.hi) (h2:∀s,s<2 ^ nd->gM ss s<=0):gN ss nd=true:=by
 unfold gN iQ sV;rw [Bool.and_eq_true,Bool.not_eq_true',List.any_eq_false,List.all_eq_true];exact ⟨λx hx=>by have :=h x hx;simp;omega, λs hs=>by have :=h2 s (List.mem_range.1 hs);simpa using this⟩
theorem ends_le {ss:List eX} {nd k:Nat} {x:eX} (hx:ss[k]?=some x) (hh:gN ss nd=true):lO9 (mG ss nd) k<=hI9 (mG ss nd) k:=by
 obtain ⟨a,b,c,d,e,f⟩:=ends_of (nd:=nd) hx;obtain ⟨h1,h2⟩:=holds_parts hh;have hm:=List.mem_of_getElem? hx;have hx':=h1 x hm;rcases e with e|⟨s,hs,h3,e⟩<;>rcases f with f|⟨t,ht,h4,f⟩
 ·omega
 ·have :=h2 t ht;omega
 ·have :=h2 s hs;omega
 ·have h5:=(two_sum s t ss h1).2 x hm h3 h4;have h6:=h2 _ (Nat.or_lt_two_pow hs ht);have h7:=h2 _ (Nat.lt_of_le_of_lt Nat.and_le_left hs:s&&& t<2 ^ nd);rw [short_sum] at h6 h7 e f;omega
theorem sumC_set (s:Nat) (y:eX):∀(ss:List eX) (k:Nat) (x:eX),ss[k]?=some x->sumC s (ss.set k y)=sumC s ss - OJ s 0 x+OJ s 0 y
 |z::l,0,x,h=>by obtain rfl:=Option.some.inj h;simp only [List.set_cons_zero,sumC];omega
 |z::l,k+1,x,h=>by have :=sumC_set s y l k x h;simp only [List.set_cons_succ,sumC];omega
theorem set_mem {ss:List eX} {k:Nat} {y z:eX} (h:z∈ss.set k y):z∈ss∨z=y:=List.mem_or_eq_of_mem_set h
theorem known_holds {ss:List eX} {nd k:Nat} {x:eX} (hx:ss[k]?=some x) (hh:gN ss nd=true) {n:Int} (h1:lO9 (mG ss nd) k<=n) (h2:n<=hI9 (mG ss nd) k):gN (ss.set k ⟨n,n,x.fr,x.to⟩) nd=true:=by
 obtain ⟨a,b,c,d, -, -⟩:=ends_of (nd:=nd) hx;obtain ⟨h3,h4⟩:=holds_parts hh;refine holds_mk (λz hz=>?_) λs hs=>?_
 ·rcases set_mem hz with hz|rfl
  ·exact h3 z hz
  ·exact Int.le_refl _
 ·have h5:=h4 s hs;have h6:=c s hs;have h7:=d s hs;rw [short_sum] at h5 h6 h7 ⊢;rw [sumC_set s _ ss k x hx];unfold OJ;dsimp only
  by_cases e:kJ s x.fr x.to=1
  ·have :=h6 e;rw [if_pos e,if_pos e];omega
  ·rw [if_neg e,if_neg e]
   by_cases e2:kJ s x.fr x.to=2
   ·have :=h7 e2;rw [if_pos e2,if_pos e2];omega
   ·rw [if_neg e2,if_neg e2];omega
end Go.Proofs
end
section
namespace Go.Proofs
open Go Go.RowKit
variable [Lo.St]
def scB (b:dO) (x:jD):dO:={ b with dA:=b.dA++ [x] }
theorem bd_snoc (l:List jD) (x:jD) (p:Int):je (l++ [x]) p=PU p (je l p) x:=by unfold je;rw [List.foldl_append];rfl
theorem webL_pile (b:dO) (hand:Int) {p:Nat} (hp:p<b.dz.length):(fA b hand)[p]?=some (mh b p):=by
 unfold fA eG;rw [List.append_assoc,List.getElem?_append_left (by simpa using hp),List.getElem?_map,List.getElem?_range hp];rfl
theorem web_scale (b:dO) (hand:Int) {p:Nat} (hp:p<b.dz.length) (n:Int):
 fA (scB b ⟨p,n,n⟩) hand=(fA b hand).set p ⟨max (mh b p).lo n,min (mh b p).hi n,(mh b p).fr,(mh b p).to⟩:=by
 have e:∀k,fq (scB b ⟨p,n,n⟩) hand k=fq b hand k:= λk=>by
  induction k with
  |zero=>rfl
  |succ k ih=>unfold fq;rw [ih];rfl
 unfold fA;rw [e];show (eG (scB b ⟨p,n,n⟩) b.dz.length++fq b hand b.steps.length)++_=_;rw [List.append_assoc,List.append_assoc,List.set_append_left _ _ (by simpa [eG] using hp)];congr 1;refine List.ext_getElem? λq=>?_
 unfold eG;rw [List.getElem?_map]
 by_cases hq:q<b.dz.length
 ·rw [List.getElem?_range hq,Option.map_some]
  by_cases e:q=p
  ·subst e;rw [List.getElem?_set_self (by simpa using hq)];unfold mh scB;dsimp only;rw [bd_snoc];unfold PU;rw [if_pos rfl]
  ·rw [List.getElem?_set_ne (λh=>e h.symm),List.getElem?_map,List.getElem?_range hq,Option.map_some];unfold mh scB;dsimp only;rw [bd_snoc];unfold PU;rw [if_neg (by dsimp only;omega)]
 ·rw [List.getElem?_eq_none (by simpa using hq),List.getElem?_eq_none (by simpa using hq)];rfl
theorem spans_pile {b:dO} {p:Nat} (hp:p<b.dz.length):Ends (fA b (-1)) (2 ^ dZ b (-1)) (mh b p) (lO9 (p8 b) p) (hI9 (p8 b) p):=ends_of (webL_pile b (-1) hp)
theorem bd_in (sc:List jD) (p:Int):0<=(je sc p).1∧(je sc p).2<=1000000:=M5 p sc (0,1000000)
theorem ends_book {b:dO} {p:Nat} (hp:p<b.dz.length) (hh:qR b=true):0<=lO9 (p8 b) p∧lO9 (p8 b) p<=hI9 (p8 b) p∧hI9 (p8 b) p<=1000000:=by
 have h:=spans_pile hp;have h1:=bd_in b.dA (p:Int);have h2:=h.l0;have h3:=h.h0;refine ⟨?_,ends_le (webL_pile b (-1) hp) hh,?_⟩
 ·have :(mh b p).lo=(je b.dA p).1:=rfl;omega
 ·have :(mh b p).hi=(je b.dA p).2:=rfl;omega
theorem scale_in {b:dO} {p:Nat} (hp:p<b.dz.length) (hh:qR b=true) {n:Int} (h1:lO9 (p8 b) p<=n) (h2:n<=hI9 (p8 b) p):
 qR (scB b ⟨p,n,n⟩)=true∧lO9 (p8 (scB b ⟨p,n,n⟩)) p=n∧hI9 (p8 (scB b ⟨p,n,n⟩)) p=n:=by
 have h:=spans_pile hp;have h3:=h.l0;have h4:=h.h0;have hx:=webL_pile b (-1) hp;have hw:=web_scale b (-1) hp n;rw [Int.max_eq_right (by omega),Int.min_eq_right (by omega)] at hw
 have hy:qR (scB b ⟨p,n,n⟩)=true:=by
  unfold qR;rw [hw];exact known_holds hx hh h1 h2
 refine ⟨hy,?_⟩;have hp':p<(scB b ⟨p,n,n⟩).dz.length:=hp;have hl:lO9 (p8 (scB b ⟨p,n,n⟩)) p<=hI9 (p8 (scB b ⟨p,n,n⟩)) p:=ends_le (webL_pile _ (-1) hp') hy;have h5:=spans_pile hp';have h6:=h5.l0;have h7:=h5.h0
 have e:mh (scB b ⟨p,n,n⟩) p=⟨n,n,(mh b p).fr,(mh b p).to⟩:=by
  have :=webL_pile (scB b ⟨p,n,n⟩) (-1) hp';rw [hw,List.getElem?_set_self (List.getElem?_eq_some_iff.1 hx).1] at this;exact (Option.some.inj this).symm
 rw [e] at h6 h7;dsimp only at h6 h7;omega
end Go.Proofs
end
section
namespace Go.Proofs
open Go Go.RowKit
variable [Lo.St]
theorem sumC_append (s:Nat):∀l r:List eX,sumC s (l++r)=sumC s l+sumC s r
 | [],r=>by simp [sumC]
 |x::l,r=>by rw [List.cons_append,sumC_cons,sumC_cons,sumC_append s l r];omega
end Go.Proofs
end
section
namespace Go.Proofs
open Go Go.RowKit
variable [Lo.St]
theorem DD.at:∀{l r:List eX} {k:Nat} {x:eX},DD l r->l[k]?=some x->∃y,r[k]?=some y∧y.lo<=x.lo∧x.hi<=y.hi∧x.fr=y.fr∧x.to=y.to
 |x::l,y::r,0,z,h,e=>by obtain rfl:=Option.some.inj e;exact ⟨y,rfl,h.1⟩
 |x::l,y::r,k+1,z,h,e=>DD.at (l:=l) (r:=r) (k:=k) h.2 e
 | [],_,_,_,_,e=>by cases e
 |_::_,[],_,_,h,_=>h.elim
theorem nar_one (s:Nat) {x y:eX} (h:y.lo<=x.lo∧x.hi<=y.hi∧x.fr=y.fr∧x.to=y.to):OJ s 0 y<=OJ s 0 x:=by
 obtain ⟨h1,h2,h3,h4⟩:=h;unfold OJ;rw [h3,h4];split
 ·omega
 ·split<;>omega
theorem nar_sum (s:Nat):∀{l r:List eX},DD l r->sumC s r<=sumC s l
 | [],[],_=>Int.le_refl _
 |x::l,y::r,h=>by
  have h1:=nar_one s h.1;have h2:=nar_sum s h.2;rw [sumC_cons,sumC_cons];omega
 | [],_::_,h=>h.elim
 |_::_,[],h=>h.elim
theorem nar_but (s:Nat):∀{l r:List eX} {k:Nat} {x y:eX},DD l r->l[k]?=some x->r[k]?=some y->sumC s r - OJ s 0 y<=sumC s l - OJ s 0 x
 |x::l,y::r,0,z,u,h,e,f=>by
  obtain rfl:=Option.some.inj e;obtain rfl:=Option.some.inj f;have :=nar_sum s h.2;rw [sumC_cons,sumC_cons];omega
 |x::l,y::r,k+1,z,u,h,e,f=>by
  have h1:=nar_one s h.1;have h2:=nar_but s (l:=l) (r:=r) (k:=k) h.2 e f;rw [sumC_cons,sumC_cons];omega
 | [],_,_,_,_,_,e,_=>by cases e
 |_::_,[],_,_,_,h,_,_=>h.elim
theorem nar_ends {l r:List eX} {nd k:Nat} {x:eX} (h:DD l r) (hx:l[k]?=some x):lO9 (mG r nd) k<=lO9 (mG l nd) k∧hI9 (mG l nd) k<=hI9 (mG r nd) k:=by
 obtain ⟨y,hy,n1,n2,n3,n4⟩:=h.at hx;obtain ⟨a,b,c,d, -, -⟩:=ends_of (nd:=nd) hx;obtain ⟨-, -, -, -,e,f⟩:=ends_of (nd:=nd) hy;rw [<-n3, <-n4] at e f;constructor
 ·rcases e with e|⟨s,hs,e1,e2⟩
  ·omega
  ·have h1:=nar_but s h hx hy;have h2:=c s hs e1;rw [short_sum] at e2 h2;unfold OJ at h1;rw [<-n3, <-n4,if_pos e1] at h1;omega
 ·rcases f with f|⟨s,hs,e1,e2⟩
  ·omega
  ·have h1:=nar_but s h hx hy;have h2:=d s hs e1;rw [short_sum] at e2 h2;have ne:¬kJ s x.fr x.to=1:=by rw [e1];decide
   unfold OJ at h1;rw [<-n3, <-n4,if_neg ne,if_pos e1] at h1;omega
theorem scB_nar (b:dO) (x:jD) (hand:Int):DD (fA (scB b x) hand) (fA b hand):=ai1 (b:=scB b x) (c:=b) rfl rfl (r:=[x]) rfl hand
end Go.Proofs
end
section
namespace Go.Proofs
open Go Go.RowKit Go.Maps
variable [Lo.St]
theorem more_ends {b:dO} (x:jD) (hand:Int) {k:Nat} (hk:k<(fA b hand).length):lO9 (mG (fA b hand) (dZ b hand)) k<=lO9 (mG (fA (scB b x) hand) (dZ (scB b x) hand)) k∧hI9 (mG (fA (scB b x) hand) (dZ (scB b x) hand)) k<=hI9 (mG (fA b hand) (dZ b hand)) k:=by
 have hl:(fA (scB b x) hand).length=(fA b hand).length:=by rw [yR,yR];rfl
 exact nar_ends (nd:=dZ b hand) (scB_nar b x hand) (List.getElem?_eq_getElem (by omega))
theorem more_spans {b:dO} (x:jD) {i:Nat} (hi:i<b.dz.length):lO9 (p8 b) i<=lO9 (p8 (scB b x)) i∧hI9 (p8 (scB b x)) i<=hI9 (p8 b) i:=
 more_ends x (-1) (by rw [yR];omega)
end Go.Proofs
end
section
namespace Go.Proofs
open Go Go.RowKit Go.Maps
variable [Lo.St]
theorem Rd.more {w:World} {B B' size n:Nat} {A:Option Addr} {f:Nat->Nat->Value} (h:Rd w B size A n f) (hB:B<=B'):Rd w B' size A n f:= λhn=>by
 obtain ⟨b,off,e,h1,h2⟩:=h hn;exact ⟨b,off,e,by omega,h2⟩
theorem fC.more {w:World} {B B':Nat} {b:dO} {v:gJ} (h:fC w B b v) (hB:B<=B'):fC w B' b v:=
 ⟨h.dJ.more hB,h.dz.more hB,h.steps.more hB, λi s e=>(h.ins i s e).more hB, λi s e=>(h.outs i s e).more hB,h.dA.more hB,h.lh,h.lp,h.ls,h.lc⟩
end Go.Proofs
end
section
namespace Go.Proofs
open Go Go.RowKit Go.Maps
section
variable {P:Program} {w:World}
theorem wpList_append_opt {ops:Array Oper} {rest:List Oper} {o:Oper} {a:Act} {Q:Exit->Act->World->Prop} (hgd:o.guard=none) (s x:Operand) (t:TypeId)
 (ho:o.op= .call { callee:=.builtin .append,args:= #[s,x],argTypes:= #[t,t] })
 (base:Nat) (e:TypeId) (i:TypeInfo) (z:Value) (size bytes:Nat) (ht:P.underlying t=some (.slice e)) (hi:P.info? e=some i) (hz:i.zero=some z)
 (hsize:i.size=size) (hby:i.bytes=bytes) (hzs:z.cells.size=size) (hsz:0<size)
 (v:Value) (n:Nat) (xs:List Value) (hs:a.eval s=v) (hown:w.ownsRow base e size v n xs)
 (A:Option Addr) (m c:Nat) (news:List Value) (hx:a.eval x= .slice A m c) (hl:news.length=m*size) (hnews:∀ad,A=some ad->∀j u,news[j]?=some u->w.cell? (ad.add j)=some u) (h0:A=none->m=0) (h1:∀u∈news,u.oneCell'=true)
 (h63:n+m<=maxLen) (hbytes:(n+m)*bytes<=140737488355328) (hbase:base<=w.heap.size)
 (h:∀v' w',w'.ownsRow base e size v' (n+m) (xs++news)->w.grownBy w' v.ownBlock->wpList P ops Q rest (a.put o.dst v') w'):wpList P ops Q (o::rest) a w:=by
 cases A with
 |some ad=>exact wpList_append_own w hgd s x t ho base e i z size bytes ht hi hz hsize hby hzs hsz v n xs hs hown ad m c news hx hl (hnews ad rfl) h1 h63 hbytes hbase λv' w' a1 a2 _=>h v' w' a1 a2
 |none=>
  obtain rfl:=h0 rfl;obtain rfl:news= []:=List.eq_nil_of_length_eq_zero (by simpa using hl);refine wpList_plain hgd λK hK=>?_
  have hrun:(Builtin.append_ #[t,t] o.type #[v,.slice none 0 c]).run P w= .ok v w:=by
   rcases hown.2 with ⟨rfl,rfl⟩|⟨g,cap,cur,rfl,_,_,hnc,_⟩
   ·simp [Builtin.append_,run_underlying ht,sizeOf,typeInfo,hi,Builtin.lenOf,Builtin.firstCells]
   ·simp [Builtin.append_,run_underlying ht,sizeOf,typeInfo,hi,Builtin.lenOf,Builtin.firstCells,hnc,storeCells]
  unfold Oper.wp execOp;simp only [ho,resolve,invoke,builtin,Sem.run_bind,Sem.run_pure,Result.andThen_ok,List.map_toArray,List.map_cons,List.map_nil,hs,hx,hrun];exact hK _ _ (h _ _ (by rw [List.append_nil];exact hown) (pX _ _))
end
def put3 (c:Array Value) (o:Nat) (a b d:Value):Array Value:=((c.setIfInBounds o a).setIfInBounds (o+1) b).setIfInBounds (o+2) d
def ScA (c:Array Value) (l:List jD):Prop:=∀i j,i<l.length->j<3->c[i*3+j]?=some (vD l i j)
theorem ScA.put {c:Array Value} {l:List jD} (h:ScA c l) {k:Nat} (hk:k<l.length) (y:jD):ScA (put3 c (k*3) (.int .i64 y.pile) (.int .i64 y.lo) (.int .i64 y.hi)) (l.set k y):=by
 intro i j hi hj;rw [List.length_set] at hi;have hsz:∀j,j<3->k*3+j<c.size:= λj hj=>(Array.getElem?_eq_some_iff.1 (h k j hk hj)).1
 have s0:=hsz 0 (by omega);have s2:=hsz 2 (by omega);unfold put3 vD
 by_cases e:i=k
 ·subst e;rw [List.getElem?_set_self hk];obtain rfl|rfl|rfl:j=0∨j=1∨j=2:=by omega
  all_goals simp [Array.getElem?_setIfInBounds]
  all_goals exact ⟨by omega,rfl⟩
 ·rw [List.getElem?_set_ne (Ne.symm e)];have :=h i j hi hj;unfold vD at this;rw [<-this];simp only [Array.getElem?_setIfInBounds];rw [if_neg (by omega),if_neg (by omega),if_neg (by omega)]
variable [Lo.St]
end Go.Proofs
end
section
namespace Go.Proofs
open Go Go.RowKit
theorem firstHas_neg' (p:Int):∀(L:List (List Int)) (k:Nat),decide (gT p L k<0)=!(L.any λl=>l.contains p)
 | [],k=>by simp [gT]
 |l::r,k=>by
  unfold gT
  by_cases h:l.contains p=true
  ·rw [if_pos h,List.any_cons,h,Bool.true_or];exact decide_eq_false (by omega)
  ·rw [if_neg h,firstHas_neg' p r,List.any_cons,show l.contains p=false by simpa using h,Bool.false_or]
end Go.Proofs
end
section
namespace Go.Proofs
open Go Go.RowKit Go.Maps
variable [Lo.St]
def unused (b:dO) (p:Nat):Bool:=decide (gT p (b.steps.map dW.ins) 0<0)
theorem lastOf_none {l:List (Int×Int)} {p:Int} (h:∀x∈l,x.1≠p):qg l p=none:=by
 induction l using uP with
 |h0=>rfl
 |h1 l x ih=>
  obtain ⟨q,j⟩:=x;rw [uO,if_neg (h (q,j) (by simp))];exact ih λx hx=>h x (List.mem_append_left _ hx)
theorem lastOf_some {l:List (Int×Int)} {p:Int} (h:∃x∈l,x.1=p):∃i,qg l p=some i:=by
 induction l using uP with
 |h0=>obtain ⟨x,hx,_⟩:=h;cases hx
 |h1 l x ih=>
  obtain ⟨q,j⟩:=x;rw [uO]
  by_cases e:q=p
  ·rw [if_pos e];exact ⟨_,rfl⟩
  ·rw [if_neg e];refine ih ?_
   obtain ⟨y,hy,e2⟩:=h;rcases List.mem_append.1 hy with hy|hy
   ·exact ⟨y,hy,e2⟩
   ·simp only [List.mem_cons,List.not_mem_nil,or_false] at hy;subst hy;exact absurd e2 e
theorem mem_putsTo {f:dW->List Int} {ss:List dW} {p:Int}:∀{k:Nat},k<=ss.length->((∃x∈fP f ss k,x.1=p)↔∃s∈ss.take k,p∈f s)
 |0,_=>by simp [fP]
 |k+1,hk=>by
  have ih:=mem_putsTo (f:=f) (ss:=ss) (p:=p) (k:=k) (by omega);have hlt:k<ss.length:=by omega
  rw [fP,List.getElem?_eq_getElem hlt,List.take_succ_eq_append_getElem hlt];dsimp only;constructor
  ·rintro ⟨x,hx,e⟩;rcases List.mem_append.1 hx with hx|hx
   ·obtain ⟨s,hs,h⟩:=ih.1 ⟨x,hx,e⟩;exact ⟨s,List.mem_append_left _ hs,h⟩
   ·obtain ⟨q,hq,rfl⟩:=List.mem_map.1 hx;exact ⟨_,List.mem_append_right _ (List.mem_singleton.2 rfl),by have e:q=p:=e;rw [<-e];exact hq⟩
  ·rintro ⟨s,hs,h⟩;rcases List.mem_append.1 hs with hs|hs
   ·obtain ⟨x,hx,e⟩:=ih.2 ⟨s,hs,h⟩;exact ⟨x,List.mem_append_left _ hx,e⟩
   ·obtain rfl:=List.mem_singleton.1 hs;exact ⟨(p,(k:Int)),List.mem_append_right _ (List.mem_map.2 ⟨p,h,rfl⟩),rfl⟩
theorem unused_iff {b:dO} {p:Nat}:unused b p=!(b.steps.any λs=>s.ins.contains (p:Int)):=by
 unfold unused;rw [firstHas_neg',List.any_map];rfl
theorem unused_user {b:dO} {p:Nat} (h:unused b p=true):qO b.steps p=none:=by
 rw [unused_iff,Bool.not_eq_true',List.any_eq_false] at h;refine lastOf_none λx hx e=>?_
 obtain ⟨s,hs,hp⟩:=(mem_putsTo (f:=dW.ins) (p:=p) (Nat.le_refl _)).1 ⟨x,hx,e⟩;exact h s (List.mem_of_mem_take hs) (by simpa using hp)
theorem used_user {b:dO} {p:Nat} (h:unused b p=false):∃i:Nat,i<b.steps.length∧qO b.steps p=some (i:Int):=by
 rw [unused_iff,Bool.not_eq_false',List.any_eq_true] at h;obtain ⟨s,hs,hp⟩:=h;obtain ⟨i,hi⟩:=lastOf_some ((mem_putsTo (f:=dW.ins) (p:=p) (Nat.le_refl _)).2 ⟨s,by rw [List.take_length];exact hs,by simpa using hp⟩);have h1:=xq dW.ins b.steps b.steps.length _ (CV _ _ hi);exact ⟨i.toNat,by omega,by rw [show ((i.toNat:Nat):Int)=i by omega];exact hi⟩
theorem maker_lt {ss:List dW} (h:0<ss.length) (p:Int):(tq ss p).toNat<ss.length:=by
 unfold tq;cases e:qg (fP dW.outs ss ss.length) p with
 |none=>exact h
 |some i=>
  have h1:=xq dW.outs ss ss.length _ (CV _ _ e);show i.toNat<_;omega
theorem bit_all (n i:Nat):bit (2 ^ n - 1) i=if i<n then 1 else 0:=by
 have h:=Nat.testBit_two_pow_sub_one n i;rw [Nat.testBit_eq_decide_div_mod_eq] at h;have h2:=KG (2 ^ n - 1) i;unfold bit at h2 ⊢
 by_cases e:i<n
 ·rw [if_pos e];simpa [e] using h
 ·rw [if_neg e];have :¬(2 ^ n - 1) / 2 ^ i%2=1:=by simpa [e] using h
  omega
theorem bit_out (n i:Nat):bit (2 ^ n) i=if i=n then 1 else 0:=by
 have h:=Nat.testBit_two_pow (n:=n) (m:=i);rw [Nat.testBit_eq_decide_div_mod_eq] at h;have h2:=KG (2 ^ n) i;unfold bit at h2 ⊢
 by_cases e:i=n
 ·subst e;rw [if_pos rfl];simpa using h
 ·rw [if_neg e];have :¬(2 ^ n) / 2 ^ i%2=1:=by simpa [Ne.symm e] using h
  omega
theorem side_all {n f t:Nat}:kJ (2 ^ n - 1) f t=if f<n then (if t<n then 0 else 2) else (if t<n then 1 else 0):=by
 unfold kJ;rw [bit_all,bit_all]
 by_cases h1:f<n<;>by_cases h2:t<n<;>simp [h1,h2]
theorem side_out {n f t:Nat}:kJ (2 ^ n) f t=if f=n then (if t=n then 0 else 2) else (if t=n then 1 else 0):=by
 unfold kJ;rw [bit_out,bit_out]
 by_cases h1:f=n<;>by_cases h2:t=n<;>simp [h1,h2]
def sumU (b:dO) (g:Nat->Int):Nat->Int
 |0=>0
 |k+1=>sumU b g k+(if unused b k=true then g k else 0)
def sumS (ss:List dW) (g:dW->Int):Nat->Int
 |0=>0
 |k+1=>sumS ss g k+(match ss[k]? with |some s=>g s|none=>0)
theorem sumS_succ {ss:List dW} {g:dW->Int} {k:Nat} {s:dW} (h:ss[k]?=some s):sumS ss g (k+1)=sumS ss g k+g s:=by rw [sumS,h]
theorem sumU_le {b:dO} {f g:Nat->Int}:∀{k:Nat},(∀i,i<k->unused b i=true->f i<=g i)->sumU b f k<=sumU b g k
 |0,_=>Int.le_refl _
 |k+1,h=>by
  have ih:=sumU_le (k:=k) λi hi=>h i (by omega)
  unfold sumU;split
  ·have :=h k (by omega) (by assumption);omega
  ·omega
theorem piles_all {b:dO} (hn:0<b.steps.length):∀k,sumC (2 ^ b.steps.length - 1) (eG b k)=sumU b (λp=>(je b.dA p).1) k
 |0=>rfl
 |k+1=>by
  unfold eG;rw [List.range_succ,List.map_append,sumC_append];have ih:=piles_all hn k;unfold eG at ih;rw [ih,sumU];congr 1;show OJ _ 0 (mh b k)+0=_;unfold OJ mh;dsimp only;rw [side_all,if_pos (maker_lt hn k)]
  by_cases hu:unused b k=true
  ·rw [if_pos hu,unused_user hu];simp
  ·rw [if_neg hu];obtain ⟨i,hi,e⟩:=used_user (by simpa using hu:unused b k=false);rw [e];simp [hi]
theorem piles_out {b:dO} (hn:0<b.steps.length):∀k,sumC (2 ^ b.steps.length) (eG b k)= - sumU b (λp=>(je b.dA p).2) k
 |0=>rfl
 |k+1=>by
  unfold eG;rw [List.range_succ,List.map_append,sumC_append];have ih:=piles_out hn k;unfold eG at ih;rw [ih,sumU,Int.neg_add];congr 1;show OJ _ 0 (mh b k)+0=_;unfold OJ mh;dsimp only;have hm:=maker_lt hn k;rw [side_out,if_neg (show ¬(tq b.steps (k:Int)).toNat=b.steps.length by omega)]
  by_cases hu:unused b k=true
  ·rw [if_pos hu,unused_user hu];simp
  ·rw [if_neg hu];obtain ⟨i,hi,e⟩:=used_user (by simpa using hu:unused b k=false);rw [e];have :¬i=b.steps.length:=by omega
   simp [this]
theorem steps_all {b:dO} (hh:∀s∈b.steps,0<=s.hand):∀{k:Nat},k<=b.steps.length->sumC (2 ^ b.steps.length - 1) (fq b (-1) k)=sumS b.steps dW.l0 k - sumS b.steps dW.g1 k
 |0,_=>rfl
 |k+1,hk=>by
  have ih:=steps_all hh (k:=k) (by omega);have hlt:k<b.steps.length:=by omega
  unfold fq;rw [sumC_append,ih];rw [sumS_succ (List.getElem?_eq_getElem hlt),sumS_succ (List.getElem?_eq_getElem hlt),List.getElem?_eq_getElem hlt];dsimp only;have h0:=hh _ (List.getElem_mem hlt);unfold nT;rw [if_neg (show ¬(b.steps[k]'hlt).hand= -1 by omega)];show _+(OJ _ 0 _+(OJ _ 0 _+0))=_;unfold OJ;dsimp only;rw [side_all,side_all];simp [hlt];omega
theorem steps_out {b:dO} (hh:∀s∈b.steps,0<=s.hand):∀{k:Nat},k<=b.steps.length->sumC (2 ^ b.steps.length) (fq b (-1) k)=sumS b.steps dW.g0 k - sumS b.steps dW.l1 k
 |0,_=>rfl
 |k+1,hk=>by
  have ih:=steps_out hh (k:=k) (by omega);have hlt:k<b.steps.length:=by omega
  unfold fq;rw [sumC_append,ih];rw [sumS_succ (List.getElem?_eq_getElem hlt),sumS_succ (List.getElem?_eq_getElem hlt),List.getElem?_eq_getElem hlt];dsimp only;have h0:=hh _ (List.getElem_mem hlt);unfold nT;rw [if_neg (show ¬(b.steps[k]'hlt).hand= -1 by omega)];show _+(OJ _ 0 _+(OJ _ 0 _+0))=_;unfold OJ;dsimp only;rw [side_out,side_out];have :¬k=b.steps.length:=by omega
  simp [this];omega
theorem cut_bounds {b:dO} (hn:0<b.steps.length) (hp:∀s∈b.steps,0<=s.hand) (hh:qR b=true):
 sumU b (λp=>(je b.dA p).1) b.dz.length+sumS b.steps dW.l0 b.steps.length<=sumS b.steps dW.g1 b.steps.length∧
 sumS b.steps dW.g0 b.steps.length<=sumU b (λp=>(je b.dA p).2) b.dz.length+sumS b.steps dW.l1 b.steps.length:=by
 obtain ⟨-,h2⟩:=holds_parts (show gN (fA b (-1)) (dZ b (-1))=true from hh);have hnd:dZ b (-1)=b.steps.length+1:=rfl;have hpow:2 ^ (b.steps.length+1)=2*2 ^ b.steps.length:=by rw [Nat.pow_succ];omega
 have hpos:=Nat.two_pow_pos b.steps.length;have a:=h2 (2 ^ b.steps.length - 1) (by rw [hnd];omega);have c:=h2 (2 ^ b.steps.length) (by rw [hnd];omega)
 have e:fA b (-1)=eG b b.dz.length++fq b (-1) b.steps.length:=by
  unfold fA;rw [if_neg (by decide),List.append_nil]
 rw [short_sum,e,sumC_append] at a c;rw [piles_all hn,steps_all hp (Nat.le_refl _)] at a;rw [piles_out hn,steps_out hp (Nat.le_refl _)] at c;omega
end Go.Proofs
end
section
namespace Go.Proofs
open Go Go.RowKit Go.Maps
def pickZ (picks:List Int) (k:Nat):Int:=(picks[k]?).getD ((k:Int)*37)
def u16At (l:List Int) (i j:Nat):Value:=.int .u16 ((l[i]?).getD 0)
abbrev RdU (w:World) (B:Nat) (A:Option Addr) (l:List Int):Prop:=Rd w B 1 A l.length (u16At l)
def U16 (l:List Int):Prop:=∀x∈l,0<=x∧x<65536
variable [Lo.St]
theorem Lo.pick_is {w:World} {B:Nat} {A:Option Addr} {l:List Int} {c k:Nat} {a b:Int} (h:RdU w B A l) (hu:U16 l) (hB:B<=w.heap.size) (hab:0<=a∧a<=b∧b<=100000000) (hk:k<=10000):
 Calls Lo.prog 31 #[.agg #[.int .i64 a,.int .i64 b],.slice A l.length c,.int .i64 (k:Int)] w λe w'=>e= .returned (.int .i64 (a+pickZ l k%(b - a+1)))∧Below w.heap.size w w':=by
 obtain ⟨U,U2,U3,U4,U5,U6⟩:=Lo.facts;obtain ⟨ha,hle,hb⟩:=hab
 have key:∀x:Int,0<=x->x<2000000->IntKind.i64.wrap (b - a)=b - a∧IntKind.i64.wrap (b - a+1)=b - a+1∧¬(b - a+1=0)∧x.tmod (b - a+1)=x%(b - a+1)∧IntKind.i64.wrap (x%(b - a+1))=x%(b - a+1)∧IntKind.i64.wrap (a+x%(b - a+1))=a+x%(b - a+1)∧IntKind.i64.wrap x=x:= λx h0 h1=>by
  have m1:0<=x%(b - a+1):=Int.emod_nonneg _ (by omega);have m2:x%(b - a+1)<b - a+1:=Int.emod_lt_of_pos _ (by omega);refine ⟨?_,?_,by omega,Int.tmod_eq_emod_of_nonneg h0,?_,?_,?_⟩<;>(rw [IntKind.wrap_i64];omega)
 by_cases hlt:k<l.length
 ·have hlt':(k:Int)<(l.length:Int):=by omega
  obtain ⟨bb,off,rfl,hbb,hc⟩:=h (by omega);have r:=hc k 0 hlt (by omega);rw [show off+(k*1+0)=off+k by omega] at r;have e:pickZ l k=l[k]:=by unfold pickZ;rw [List.getElem?_eq_getElem hlt];rfl
  have e2:u16At l k 0= .int .u16 l[k]:=by unfold u16At;rw [List.getElem?_eq_getElem hlt];rfl
  have hx:=hu _ (List.getElem_mem hlt);rw [e];rw [e2] at r;generalize l[k]=x at r hx;obtain ⟨i1,i2,i3,i4,i5,i6,i7⟩:=key x hx.1 (by omega);have r2:∀o,(w.alloc o).cell? ⟨bb,off+k,none⟩=some (.int .u16 x):= λo=>(World.cell?_alloc_past _ _ _ (by show bb<w.heap.size;omega)).trans r
  have iw:IntKind.i64.wrap ((k:Int)*37)=(k:Int)*37:=by rw [IntKind.wrap_i64];omega
  clear hc key e e2 h hu;go_enter Lo.get Tryz.func31,Tryz.ntmps31;go_wp2;obtain ⟨X,hX⟩:∃X,w.alloc (.cells #[.int .i64 a,.int .i64 b] 51)=X:=⟨_,rfl⟩;have hXb:X.heap[w.heap.size]?=some (.cells #[.int .i64 a,.int .i64 b] 51):=hX ▸ World.alloc_heap_new _ _
  have hXw:Below w.heap.size w X:=hX ▸ (Below.refl _ _).alloc (Nat.le_refl _) _;obtain ⟨x0,x1, -, -⟩:=KV hXb;rw [hX];have HX:=Lib.hid hXw;clear hX hXb hXw
  go_still_tail 11,Lo.mixed
  change wpList _ _ _ _ _ X.drew;go_wp2;go_ret;exact ⟨rfl,HX.out.drew⟩
 ·have hlt':¬(k:Int)<(l.length:Int):=by omega
  have e:pickZ l k=(k:Int)*37:=by unfold pickZ;rw [List.getElem?_eq_none (by omega)];rfl
  rw [e];obtain ⟨i1,i2,i3,i4,i5,i6,i7⟩:=key ((k:Int)*37) (by omega) (by omega);clear key e h hu;go_enter Lo.get Tryz.func31,Tryz.ntmps31;go_wp2;obtain ⟨X,hX⟩:∃X,w.alloc (.cells #[.int .i64 a,.int .i64 b] 51)=X:=⟨_,rfl⟩;have hXb:X.heap[w.heap.size]?=some (.cells #[.int .i64 a,.int .i64 b] 51):=hX ▸ World.alloc_heap_new _ _
  have hXw:Below w.heap.size w X:=hX ▸ (Below.refl _ _).alloc (Nat.le_refl _) _;obtain ⟨x0,x1, -, -⟩:=KV hXb;rw [hX];have HX:=Lib.hid hXw;clear hX hXb hXw
  go_still_tail 11,Lo.mixed
  change wpList _ _ _ _ _ X.drew;go_wp2;go_ret;exact ⟨rfl,HX.out.drew⟩
end Go.Proofs
end
section
namespace Go.Proofs
open Go Go.RowKit Go.Maps
variable [Lo.St]
def fixS (f:Nat->Int) (l:List Nat):List jD:=l.map λp:Nat=>⟨(p:Int),f p,f p⟩
def addB (b:dO) (l:List jD):dO:={ b with dA:=b.dA++l }
theorem fix_all:∀(ps:List Nat) (b:dO),qR b=true->(∀p∈ps,p<b.dz.length)->ps.Nodup->∃f:Nat->Int,(∀p∈ps,lO9 (p8 b) p<=f p∧f p<=hI9 (p8 b) p)∧qR (addB b (fixS f ps))=true
 | [],b,h,_,_=>⟨λ_=>0,(λp hp=>by cases hp),by simpa [addB,fixS] using h⟩
 |p::ps,b,h,hp,hd=>by
  have hp0:=hp p (by simp);have hle:lO9 (p8 b) p<=hI9 (p8 b) p:=ends_le (webL_pile b (-1) hp0) h;obtain ⟨h1, -, -⟩:=scale_in (b:=b) hp0 h (n:=lO9 (p8 b) p) (Int.le_refl _) hle;obtain ⟨f,hf,hh⟩:=fix_all ps (scB b ⟨(p:Int),lO9 (p8 b) p,lO9 (p8 b) p⟩) h1 (λq hq=>hp q (by simp [hq])) (List.nodup_cons.1 hd).2;refine ⟨λq=>if q=p then lO9 (p8 b) p else f q,?_,?_⟩
  ·intro q hq;dsimp only
   by_cases e:q=p
   ·subst e;rw [if_pos rfl];exact ⟨Int.le_refl _,hle⟩
   ·rw [if_neg e];have hq':q∈ps:=by simpa [e] using hq
    obtain ⟨a,c⟩:=hf q hq';obtain ⟨a',c'⟩:=more_spans ⟨(p:Int),lO9 (p8 b) p,lO9 (p8 b) p⟩ (hp q hq);exact ⟨by omega,by omega⟩
  ·have e:addB b (fixS (λq=>if q=p then lO9 (p8 b) p else f q) (p::ps))=addB (scB b ⟨(p:Int),lO9 (p8 b) p,lO9 (p8 b) p⟩) (fixS f ps):=by
    have e2:ps.map (λq:Nat=>(⟨(q:Int),if q=p then lO9 (p8 b) p else f q,if q=p then lO9 (p8 b) p else f q⟩:jD))=ps.map λq:Nat=>⟨(q:Int),f q,f q⟩:=
     List.map_congr_left λq hq=>by
      have :q≠p:= λe=>(List.nodup_cons.1 hd).1 (e ▸ hq)
      rw [if_neg this]
    unfold addB scB fixS;rw [List.map_cons,e2];simp only [if_true,List.append_assoc,List.singleton_append,List.cons_append,List.nil_append]
   rw [e];exact hh
theorem bd_mem {s:jD} {l:List jD} (h:s∈l):s.lo<=(je l s.pile).1∧(je l s.pile).2<=s.hi:=by
 induction l using uP with
 |h0=>cases h
 |h1 l x ih=>
  rw [bd_snoc];unfold PU;rcases List.mem_append.1 h with h|h
  ·obtain ⟨a,c⟩:=ih h;split
   ·exact ⟨by show _<=max _ _;omega,by show min _ _<=_;omega⟩
   ·exact ⟨a,c⟩
  ·obtain rfl:=List.mem_singleton.1 h;rw [if_pos rfl];exact ⟨by show _<=max _ _;omega,by show min _ _<=_;omega⟩
theorem sumU_add (b:dO) (l:List jD) (g:Nat->Int):∀k,sumU (addB b l) g k=sumU b g k
 |0=>rfl
 |k+1=>by unfold sumU;rw [sumU_add b l g k];rfl
theorem sumS_congr {ss:List dW} {f g:dW->Int} (h:∀s∈ss,f s=g s):∀k,sumS ss f k=sumS ss g k
 |0=>rfl
 |k+1=>by
  unfold sumS;rw [sumS_congr h k];cases e:ss[k]? with
  |none=>rfl
  |some s=>dsimp only;rw [h s (List.mem_of_getElem? e)]
theorem balance {b:dO} (hc:fG b=0) (hh:qR b=true) (hf:∀s∈b.steps,s.g0=s.g1∧s.l0=s.l1):
 sumU b (lO9 (p8 b)) b.dz.length<=sumS b.steps dW.g0 b.steps.length - sumS b.steps dW.l0 b.steps.length∧
 sumS b.steps dW.g0 b.steps.length - sumS b.steps dW.l0 b.steps.length<=sumU b (hI9 (p8 b)) b.dz.length:=by
 obtain ⟨-,h2,h3⟩:=CX (EP hc).2.2.1
 by_cases hn:0<b.steps.length
 ·have hp:∀s∈b.steps,0<=s.hand:= λs hm=>by
   have :=(vE h2 s hm).1;unfold kH at this;simp at this;omega
  obtain ⟨f,hf1,hf2⟩:=fix_all ((List.range b.dz.length).filter (unused b)) b hh (λp hp=>List.mem_range.1 (List.mem_filter.1 hp).1) (List.Pairwise.filter _ List.nodup_range);obtain ⟨c1,c2⟩:=cut_bounds (b:=addB b (fixS f ((List.range b.dz.length).filter (unused b)))) hn hp hf2;rw [sumU_add] at c1 c2;change _+sumS b.steps _ b.steps.length<=sumS b.steps _ b.steps.length at c1;change sumS b.steps _ b.steps.length<=_+sumS b.steps _ b.steps.length at c2;change sumU b _ b.dz.length+_<=_ at c1;change _<=sumU b _ b.dz.length+_ at c2;rw [<-sumS_congr (λs hs=>(hf s hs).1)] at c1;rw [<-sumS_congr (λs hs=>(hf s hs).2)] at c2;have hmem:∀i,i<b.dz.length->unused b i=true->i∈(List.range b.dz.length).filter (unused b):= λi hi hu=>List.mem_filter.2 ⟨List.mem_range.2 hi,hu⟩
  have hb:∀i,i<b.dz.length->unused b i=true->f i<=(je (b.dA++fixS f ((List.range b.dz.length).filter (unused b))) i).1∧(je (b.dA++fixS f ((List.range b.dz.length).filter (unused b))) i).2<=f i:= λi hi hu=>
   bd_mem (s:=⟨(i:Int),f i,f i⟩) (List.mem_append_right _ (List.mem_map.2 ⟨i,hmem i hi hu,rfl⟩))
  have a1:=sumU_le (b:=b) (k:=b.dz.length) (f:=lO9 (p8 b)) (g:=f) λi hi hu=>(hf1 i (hmem i hi hu)).1
  have a2:=sumU_le (b:=b) (k:=b.dz.length) (f:=f) (g:=hI9 (p8 b)) λi hi hu=>(hf1 i (hmem i hi hu)).2
  have a3:=sumU_le (b:=b) (k:=b.dz.length) (f:=f) (g:= λp=>(je (b.dA++fixS f ((List.range b.dz.length).filter (unused b))) p).1) λi hi hu=>(hb i hi hu).1
  have a4:=sumU_le (b:=b) (k:=b.dz.length) (f:= λp=>(je (b.dA++fixS f ((List.range b.dz.length).filter (unused b))) p).2) (g:=f) λi hi hu=>(hb i hi hu).2
  change sumU b (λp=>(je (b.dA++_) p).1) _+_<=_ at c1;change _<=sumU b (λp=>(je (b.dA++_) p).2) _+_ at c2;omega
 ·have e1:b.steps= []:=List.eq_nil_of_length_eq_zero (by omega);rw [e1] at h3
  have e2:b.dz.length=0:=by
   simp [jr] at h3;simpa using h3
  rw [e2,e1];exact ⟨Int.le_refl _,Int.le_refl _⟩
def pickX (s:dW) (pk:List Int) (k:Nat):Int:=s.g0+pickZ pk (2*k)%(s.g1 - s.g0+1)
def pickY (s:dW) (pk:List Int) (k:Nat):Int:=s.l0+pickZ pk (2*k+1)%(s.l1 - s.l0+1)
def setG (s:dW) (x y:Int):dW:={ s with g0:=x,g1:=x,l0:=y,l1:=y }
def fixL (pk:List Int):List dW->Nat->List dW
 | [],_=>[]
 |s::r,k=>setG s (pickX s pk k) (pickY s pk k)::fixL pk r (k+1)
def fixB (b:dO) (pk:List Int):dO:={ b with steps:=fixL pk b.steps 0 }
theorem fixL_len (pk:List Int):∀(ss:List dW) (k:Nat),(fixL pk ss k).length=ss.length
 | [],_=>rfl
 |s::r,k=>by unfold fixL;rw [List.length_cons,List.length_cons,fixL_len pk r]
theorem fixL_get (pk:List Int):∀(ss:List dW) (k i:Nat),(fixL pk ss k)[i]?=(ss[i]?).map λs=>setG s (pickX s pk (k+i)) (pickY s pk (k+i))
 | [],_,_=>rfl
 |s::r,k,0=>rfl
 |s::r,k,i+1=>by
  unfold fixL;rw [List.getElem?_cons_succ,List.getElem?_cons_succ,fixL_get pk r (k+1) i,show k+1+i=k+(i+1) by omega]
theorem inside_iff {a c:Int}:eT a c 0 1000000=true↔0<=a∧a<=c∧c<=1000000:=by
 unfold eT;simp;omega
theorem pick_in {a c:Int} (h:a<=c) (z:Int):a<=a+z%(c - a+1)∧a+z%(c - a+1)<=c:=by
 have h1:=Int.emod_nonneg z (show c - a+1≠0 by omega);have h2:=Int.emod_lt_of_pos z (show 0<c - a+1 by omega);omega
theorem fix_steps (pk:List Int) (nh np:Nat):∀(ss:List dW) (k:Nat) (M U:List Int),(jr nh np ss M U).1=0->jr nh np (fixL pk ss k) M U=jr nh np ss M U
 | [],_,_,_,_=>rfl
 |s::r,k,M,U,h=>by
  unfold fixL;rw [jr] at h ⊢;rw [jr]
  by_cases q1:kH s.hand 0 ((nh:Int) - 1)=false
  ·rw [if_pos q1] at h;cases h
  by_cases q2:(oD np M s.ins U).1≠0
  ·rw [if_neg q1,if_pos q2] at h;exact absurd h q2
  by_cases q3:(iX np s.outs M).1≠0
  ·rw [if_neg q1,if_neg q2,if_pos q3] at h;exact absurd h q3
  by_cases q4:eT s.g0 s.g1 0 1000000=false
  ·rw [if_neg q1,if_neg q2,if_neg q3,if_pos q4] at h;cases h
  by_cases q5:eT s.l0 s.l1 0 1000000=false
  ·rw [if_neg q1,if_neg q2,if_neg q3,if_neg q4,if_pos q5] at h;cases h
  rw [if_neg q1,if_neg q2,if_neg q3,if_neg q4,if_neg q5] at h;have g1:=inside_iff.1 (by simpa using q4:eT s.g0 s.g1 0 1000000=true);have g2:=inside_iff.1 (by simpa using q5:eT s.l0 s.l1 0 1000000=true);have x1:=pick_in g1.2.1 (pickZ pk (2*k));have x2:=pick_in g2.2.1 (pickZ pk (2*k+1));have i1:eT (pickX s pk k) (pickX s pk k) 0 1000000=true:=inside_iff.2 ⟨by unfold pickX;omega,Int.le_refl _,by unfold pickX;omega⟩;have i2:eT (pickY s pk k) (pickY s pk k) 0 1000000=true:=inside_iff.2 ⟨by unfold pickY;omega,Int.le_refl _,by unfold pickY;omega⟩;show (if kH s.hand 0 ((nh:Int) - 1)=false then _ else if (oD np M s.ins U).1≠0 then _ else if (iX np s.outs M).1≠0 then _ else if eT (pickX s pk k) (pickX s pk k) 0 1000000=false then _ else if eT (pickY s pk k) (pickY s pk k) 0 1000000=false then _ else jr nh np (fixL pk r (k+1)) (iX np s.outs M).2 (oD np M s.ins U).2)=_;rw [if_neg q1,if_neg q2,if_neg q3,if_neg (by rw [i1];simp),if_neg (by rw [i2];simp),if_neg q1,if_neg q2,if_neg q3,if_neg q4,if_neg q5];exact fix_steps pk nh np r (k+1) _ _ h
theorem fix_check {b:dO} (pk:List Int) (hc:fG b=0):fG (fixB b pk)=0:=by
 obtain ⟨h1,h2,h3,h4,h5⟩:=EP hc;obtain ⟨k1,k2,k3⟩:=CX h3;have e:=fix_steps pk b.dJ.length b.dz.length b.steps 0 [] [] k2
 have e3:fB (fixB b pk)=0:=by
  unfold fB;show (if 8<(fixL pk b.steps 0).length then _ else if (jr b.dJ.length b.dz.length (fixL pk b.steps 0) [] []).1≠0 then _ else if (jr b.dJ.length b.dz.length (fixL pk b.steps 0) [] []).2.length<b.dz.length then _ else _)=_;rw [e,fixL_len,if_neg (by omega),if_neg (by rw [k2];simp),if_neg k3]
 unfold fG;rw [if_neg (by show ¬dP b.dJ 4≠0;rw [h1];simp),if_neg (by show ¬dP b.dz 12≠0;rw [h2];simp),if_neg (by rw [e3];simp)];show (if 10<b.dA.length then _ else ku b.dz.length b.dA)=0;rw [if_neg (by omega)];exact h5
theorem fix_known {b:dO} (pk:List Int):∀s∈(fixB b pk).steps,s.g0=s.g1∧s.l0=s.l1:=by
 intro s hs;obtain ⟨i,hi⟩:=List.getElem?_of_mem hs;rw [show (fixB b pk).steps=fixL pk b.steps 0 from rfl,fixL_get] at hi;cases e:b.steps[i]? with
 |none=>rw [e] at hi;cases hi
 |some z=>
  rw [e] at hi;obtain rfl:=Option.some.inj hi;exact ⟨rfl,rfl⟩
end Go.Proofs
end
