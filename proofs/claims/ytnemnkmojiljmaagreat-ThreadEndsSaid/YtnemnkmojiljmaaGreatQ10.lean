/- Part 10. -/
import Derived.Test.YtnemnkmojiljmaaGreatQ02
set_option maxRecDepth 100000
set_option maxHeartbeats 0
set_option linter.all false
namespace Go.Proofs
open Go Go.RowKit
variable [Lo.St]
structure Ends (ss:List eX) (m:Nat) (x:eX) (l h:Int):Prop where
 l0:x.lo<=l
 h0:h<=x.hi
 l1:∀s,s<m->kJ s x.fr x.to=1->gM ss s+x.hi<=l
 h1:∀s,s<m->kJ s x.fr x.to=2->h<=x.lo - gM ss s
 l2:l=x.lo∨∃s,s<m∧kJ s x.fr x.to=1∧l=gM ss s+x.hi
 h2:h=x.hi∨∃s,s<m∧kJ s x.fr x.to=2∧h=x.lo - gM ss s
theorem ends_sets {ss:List eX} {k:Nat} {x:eX} (hx:ss[k]?=some x):∀m,Ends ss m x (lowAt (nA ss m) k) (highAt (nA ss m) k)
 |0=>by
  obtain ⟨h1,h2⟩:=initTo_at hx ss.length (Nat.le_refl _) (List.getElem?_eq_some_iff.1 hx).1;unfold nA;rw [h1,h2];exact ⟨Int.le_refl _,Int.le_refl _, λs h=>absurd h (Nat.not_lt_zero _), λs h=>absurd h (Nat.not_lt_zero _),.inl rfl,.inl rfl⟩
 |m+1=>by
  obtain ⟨a,b,c,d,e,f⟩:=ends_sets hx m;obtain ⟨h1,h2⟩:=rowTo_at (s:=m) (o:=nA ss m) (pV ss m) hx ss.length (Nat.le_refl _);have hk:=(List.getElem?_eq_some_iff.1 hx).1;unfold nA;rw [h1,h2,if_pos hk,if_pos hk];generalize lowAt (nA ss m) k=l at *;generalize highAt (nA ss m) k=h at *;have hl:l<=loS ss m x l:=by unfold loS;split<;>omega
  have hh:hiS ss m x h<=h:=by unfold hiS;split<;>omega
  refine ⟨by omega,by omega, λs hs h=>?_, λs hs h=>?_,?_,?_⟩
  ·by_cases q:s=m
   ·subst q;unfold loS;rw [if_pos h];omega
   ·have :=c s (by omega) h;omega
  ·by_cases q:s=m
   ·subst q;unfold hiS;rw [if_pos h];omega
   ·have :=d s (by omega) h;omega
  ·have e':l=x.lo∨∃s,s<m+1∧kJ s x.fr x.to=1∧l=gM ss s+x.hi:=e.imp id λ⟨s,h1,h2⟩=>⟨s,by omega,h2⟩
   unfold loS;split
   ·rename_i h;rcases Int.le_total (gM ss m+x.hi) l with q|q
    ·rw [Int.max_eq_left q];exact e'
    ·rw [Int.max_eq_right q];exact .inr ⟨m,by omega,h,rfl⟩
   ·exact e'
  ·have f':h=x.hi∨∃s,s<m+1∧kJ s x.fr x.to=2∧h=x.lo - gM ss s:=f.imp id λ⟨s,h1,h2⟩=>⟨s,by omega,h2⟩
   unfold hiS;split
   ·rename_i h3;rcases Int.le_total h (x.lo - gM ss m) with q|q
    ·rw [Int.min_eq_left q];exact f'
    ·rw [Int.min_eq_right q];exact .inr ⟨m,by omega,h3,rfl⟩
   ·exact f'
theorem ends_of {ss:List eX} {nd k:Nat} {x:eX} (hx:ss[k]?=some x):Ends ss (2 ^ nd) x (lowAt (mG ss nd) k) (highAt (mG ss nd) k):=ends_sets hx _
def sumC (s:Nat):List eX->Int
 | []=>0
 |x::l=>OJ s 0 x+sumC s l
theorem short_sum (ss:List eX) (s:Nat):gM ss s=sumC s ss:=by
 have :∀(l:List eX) (n:Int),l.foldl (OJ s) n=n+sumC s l:=by
  intro l
  induction l with
  |nil=>intro n;simp [sumC]
  |cons x l ih=>intro n;rw [List.foldl_cons,ih,sh1_add];show _=n+(OJ s 0 x+sumC s l);omega
 have h:=this ss 0;unfold gM;omega
theorem bit_or (s t i:Nat):bit (s|||t) i=max (bit s i) (bit t i):=by
 have h:∀n:Nat,bit n i=(n.testBit i).toNat:= λn=>by
  unfold bit;rw [Nat.testBit_eq_decide_div_mod_eq]
  have :n / 2 ^ i%2<2:=Nat.mod_lt _ (by decide)
  by_cases e:n / 2 ^ i%2=1<;>simp [e]<;>omega
 rw [h,h,h,Nat.testBit_or];cases s.testBit i<;>cases t.testBit i<;>rfl
theorem bit_and (s t i:Nat):bit (s&&& t) i=min (bit s i) (bit t i):=by
 have h:∀n:Nat,bit n i=(n.testBit i).toNat:= λn=>by
  unfold bit;rw [Nat.testBit_eq_decide_div_mod_eq]
  have :n / 2 ^ i%2<2:=Nat.mod_lt _ (by decide)
  by_cases e:n / 2 ^ i%2=1<;>simp [e]<;>omega
 rw [h,h,h,Nat.testBit_and];cases s.testBit i<;>cases t.testBit i<;>rfl
theorem two_one (s t:Nat) (x:eX) (h:x.lo<=x.hi):OJ s 0 x+OJ t 0 x<=OJ (s|||t) 0 x+OJ (s&&& t) 0 x∧(kJ s x.fr x.to=1->kJ t x.fr x.to=2->OJ s 0 x+OJ t 0 x+(x.hi - x.lo)<=OJ (s|||t) 0 x+OJ (s&&& t) 0 x):=by
 unfold OJ kJ;rw [bit_or,bit_and,bit_or,bit_and];have a:=KG s x.fr;have b:=KG s x.to;have c:=KG t x.fr;have d:=KG t x.to;generalize bit s x.fr=p at *;generalize bit s x.to=q at *;generalize bit t x.fr=u at *;generalize bit t x.to=v at *;rcases (by omega:p=0∨p=1) with rfl|rfl<;>rcases (by omega:q=0∨q=1) with rfl|rfl<;>rcases (by omega:u=0∨u=1) with rfl|rfl<;>rcases (by omega:v=0∨v=1) with rfl|rfl<;>simp <;>omega
theorem two_sum (s t:Nat):∀(ss:List eX),(∀x∈ss,x.lo<=x.hi)->sumC s ss+sumC t ss<=sumC (s|||t) ss+sumC (s&&& t) ss∧∀x∈ss,kJ s x.fr x.to=1->kJ t x.fr x.to=2->sumC s ss+sumC t ss+(x.hi - x.lo)<=sumC (s|||t) ss+sumC (s&&& t) ss
 | [],_=>⟨Int.le_refl _, λx h=>by cases h⟩
 |y::l,h=>by
  obtain ⟨h1,h2⟩:=two_sum s t l λx hx=>h x (List.mem_cons_of_mem _ hx)
  obtain ⟨h3,h4⟩:=two_one s t y (h y List.mem_cons_self);refine ⟨by unfold sumC;omega, λx hx a b=>?_⟩;rcases List.mem_cons.1 hx with rfl|hx
  ·have :=h4 a b;unfold sumC;omega
  ·have :=h2 x hx a b;unfold sumC;omega
theorem holds_parts {ss:List eX} {nd:Nat} (h:gN ss nd=true):(∀x∈ss,x.lo<=x.hi)∧∀s,s<2 ^ nd->gM ss s<=0:=by
 unfold gN iQ sV at h;rw [Bool.and_eq_true,Bool.not_eq_true',List.any_eq_false,List.all_eq_true] at h;exact ⟨λx hx=>by have :=h.1 x hx;simp at this;omega, λs hs=>by have :=h.2 s (List.mem_range.2 hs);simpa using this⟩
theorem holds_mk {ss:List eX} {nd:Nat} (h:∀x∈ss,x.lo<=x.hi) (h2:∀s,s<2 ^ nd->gM ss s<=0):gN ss nd=true:=by
 unfold gN iQ sV;rw [Bool.and_eq_true,Bool.not_eq_true',List.any_eq_false,List.all_eq_true];exact ⟨λx hx=>by have :=h x hx;simp;omega, λs hs=>by have :=h2 s (List.mem_range.1 hs);simpa using this⟩
theorem ends_le {ss:List eX} {nd k:Nat} {x:eX} (hx:ss[k]?=some x) (hh:gN ss nd=true):lowAt (mG ss nd) k<=highAt (mG ss nd) k:=by
 obtain ⟨a,b,c,d,e,f⟩:=ends_of (nd:=nd) hx;obtain ⟨h1,h2⟩:=holds_parts hh;have hm:=List.mem_of_getElem? hx;have hx':=h1 x hm;rcases e with e|⟨s,hs,h3,e⟩<;>rcases f with f|⟨t,ht,h4,f⟩
 ·omega
 ·have :=h2 t ht;omega
 ·have :=h2 s hs;omega
 ·have h5:=(two_sum s t ss h1).2 x hm h3 h4;have h6:=h2 _ (Nat.or_lt_two_pow hs ht);have h7:=h2 _ (Nat.lt_of_le_of_lt Nat.and_le_left hs:s&&& t<2 ^ nd);rw [short_sum] at h6 h7 e f;omega
theorem sumC_set (s:Nat) (y:eX):∀(ss:List eX) (k:Nat) (x:eX),ss[k]?=some x->sumC s (ss.set k y)=sumC s ss - OJ s 0 x+OJ s 0 y
 |z::l,0,x,h=>by obtain rfl:=Option.some.inj h;simp only [List.set_cons_zero,sumC];omega
 |z::l,k+1,x,h=>by have :=sumC_set s y l k x h;simp only [List.set_cons_succ,sumC];omega
theorem set_mem {ss:List eX} {k:Nat} {y z:eX} (h:z∈ss.set k y):z∈ss∨z=y:=List.mem_or_eq_of_mem_set h
theorem known_holds {ss:List eX} {nd k:Nat} {x:eX} (hx:ss[k]?=some x) (hh:gN ss nd=true) {n:Int} (h1:lowAt (mG ss nd) k<=n) (h2:n<=highAt (mG ss nd) k):gN (ss.set k ⟨n,n,x.fr,x.to⟩) nd=true:=by
 obtain ⟨a,b,c,d, -, -⟩:=ends_of (nd:=nd) hx;obtain ⟨h3,h4⟩:=holds_parts hh;refine holds_mk (λz hz=>?_) λs hs=>?_
 ·rcases set_mem hz with hz|rfl
  ·exact h3 z hz
  ·exact Int.le_refl _
 ·have h5:=h4 s hs;have h6:=c s hs;have h7:=d s hs;rw [short_sum] at h5 h6 h7 ⊢;rw [sumC_set s _ ss k x hx];unfold OJ;dsimp only
  by_cases e:kJ s x.fr x.to=1
  ·have :=h6 e;rw [if_pos e,if_pos e];omega
  ·rw [if_neg e,if_neg e]
   by_cases e2:kJ s x.fr x.to=2
   ·have :=h7 e2;rw [if_pos e2,if_pos e2];omega
   ·rw [if_neg e2,if_neg e2];omega
theorem out_holds {ss:List eX} {nd k:Nat} {x:eX} (hx:ss[k]?=some x) {n:Int} (h:n<lowAt (mG ss nd) k∨highAt (mG ss nd) k<n):gN (ss.set k ⟨max x.lo n,min x.hi n,x.fr,x.to⟩) nd=false:=by
 cases hh:gN (ss.set k ⟨max x.lo n,min x.hi n,x.fr,x.to⟩) nd with
 |false=>rfl
 |true=>
  exfalso;obtain ⟨a,b, -, -,e,f⟩:=ends_of (nd:=nd) hx;obtain ⟨h3,h4⟩:=holds_parts hh;have hk:=(List.getElem?_eq_some_iff.1 hx).1;have h5:=h3 _ (List.mem_of_getElem? (List.getElem?_set_self hk));dsimp only at h5;rcases h with h|h
  ·rcases e with e|⟨s,hs,e1,e2⟩
   ·omega
   ·have h6:=h4 s hs;rw [short_sum,sumC_set s _ ss k x hx] at h6;rw [short_sum] at e2;unfold OJ at h6;dsimp only at h6;rw [if_pos e1,if_pos e1] at h6;omega
  ·rcases f with f|⟨s,hs,e1,e2⟩
   ·omega
   ·have h6:=h4 s hs;rw [short_sum,sumC_set s _ ss k x hx] at h6;rw [short_sum] at e2;unfold OJ at h6;dsimp only at h6;have n1:¬kJ s x.fr x.to=1:=by rw [e1];decide
    simp only [if_neg n1,if_pos e1] at h6;omega
end Go.Proofs
