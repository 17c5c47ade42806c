/- Part 1. -/
import Derived.RangeFuncRecord
import Derived.Test.YtjoahejacacljaaGreatH25
set_option maxRecDepth 100000
set_option maxHeartbeats 0
set_option linter.all false
section
namespace Go.Proofs
open Go Go.RowKit Go.Maps
def pickZ(picks:List Int)(k:Nat):Int:=(picks[k]?).getD ((k:Int)*37)
def u16At(l:List Int)(i j:Nat):Value:=.int .u16 ((l[i]?).getD 0)
abbrev RdU(w:World)(B:Nat)(A:Option Addr)(l:List Int):Prop:=Rd w B 1 A l.length (u16At l)
def U16(l:List Int):Prop:=∀x∈l,0<=x∧x<65536
variable [Lo.St]
def Lo.pick_is{w:World}{B:Nat}{A:Option Addr}{l:List Int}{c k:Nat}{a b:Int}(h:RdU w B A l)(hu:U16 l)(hB:B<=w.heap.size)(hab:0<=a∧a<=b∧b<=100000000)(hk:k<=10000):
 Calls Lo.prog 10 #[.agg #[.int .i64 a,.int .i64 b],.slice A l.length c,.int .i64 (k:Int)] w λe w'=>e=.returned (.int .i64 (a+pickZ l k%(b-a+1)))∧Below w.heap.size w w':=by
 obtain⟨U,U2,U3,U4,U5,U6⟩:=Lo.facts;obtain⟨ha,hle,hb⟩:=hab
 have key:∀x:Int,0<=x->x<2000000->IntKind.i64.wrap (b-a)=b-a∧IntKind.i64.wrap (b-a+1)=b-a+1∧¬(b-a+1=0)∧x.tmod (b-a+1)=x%(b-a+1)∧IntKind.i64.wrap (x%(b-a+1))=x%(b-a+1)∧IntKind.i64.wrap (a+x%(b-a+1))=a+x%(b-a+1)∧IntKind.i64.wrap x=x:= λx h0 h1=>by have m1:0<=x%(b-a+1):=Int.emod_nonneg _ (by omega);have m2:x%(b-a+1)<b-a+1:=Int.emod_lt_of_pos _ (by omega);refine⟨?_,?_,by omega,Int.tmod_eq_emod_of_nonneg h0,?_,?_,?_⟩<;>(rw[IntKind.wrap_i64];omega)
 by_cases hlt:k<l.length
 .have hlt':(k:Int)<(l.length:Int):=by omega
  obtain⟨bb,off,rfl,hbb,hc⟩:=h (by omega);have r:=hc k 0 hlt (by omega);rw[show off+(k*1+0)=off+k by omega]at r;have e:pickZ l k=l[k]:=by unfold pickZ;rw[List.getElem?_eq_getElem hlt];rfl
  have e2:u16At l k 0=.int .u16 l[k]:=by unfold u16At;rw[List.getElem?_eq_getElem hlt];rfl
  have hx:=hu _ (List.getElem_mem hlt);rw[e];rw[e2]at r;generalize l[k]=x at r hx;obtain⟨i1,i2,i3,i4,i5,i6,i7⟩:=key x hx.1 (by omega);have r2:∀o,(w.alloc o).cell? ⟨bb,off+k,none⟩=some (.int .u16 x):= λo=>(World.cell?_alloc_past _ _ _ (by show bb<w.heap.size;omega)).trans r
  have iw:IntKind.i64.wrap ((k:Int)*37)=(k:Int)*37:=by rw[IntKind.wrap_i64];omega
  clear hc key e e2 h hu;go_enter Lo.get Tryz.func10,Tryz.ntmps10;go_wp2;obtain⟨X,hX⟩:∃X,w.alloc (.cells #[.int .i64 a,.int .i64 b] 33)=X:=⟨_,rfl⟩;have dy:X.heap[w.heap.size]?=some (.cells #[.int .i64 a,.int .i64 b] 33):=hX ▸ World.alloc_heap_new _ _
  have hXw:Below w.heap.size w X:=hX ▸ (Below.refl _ _).alloc (Nat.le_refl _) _;obtain⟨x0,x1, -, -⟩:=KV dy;rw[hX];have HX:=Lib.hid hXw;clear hX dy hXw
  go_still_tail 11,Lo.mixed
  change wpList _ _ _ _ _ X.drew;go_wp2;go_ret;exact⟨rfl,HX.out.drew⟩
 .have hlt':¬(k:Int)<(l.length:Int):=by omega
  have e:pickZ l k=(k:Int)*37:=by unfold pickZ;rw[List.getElem?_eq_none (by omega)];rfl
  rw[e];obtain⟨i1,i2,i3,i4,i5,i6,i7⟩:=key ((k:Int)*37) (by omega) (by omega);clear key e h hu;go_enter Lo.get Tryz.func10,Tryz.ntmps10;go_wp2;obtain⟨X,hX⟩:∃X,w.alloc (.cells #[.int .i64 a,.int .i64 b] 33)=X:=⟨_,rfl⟩;have dy:X.heap[w.heap.size]?=some (.cells #[.int .i64 a,.int .i64 b] 33):=hX ▸ World.alloc_heap_new _ _
  have hXw:Below w.heap.size w X:=hX ▸ (Below.refl _ _).alloc (Nat.le_refl _) _;obtain⟨x0,x1, -, -⟩:=KV dy;rw[hX];have HX:=Lib.hid hXw;clear hX dy hXw
  go_still_tail 11,Lo.mixed
  change wpList _ _ _ _ _ X.drew;go_wp2;go_ret;exact⟨rfl,HX.out.drew⟩
end Go.Proofs
end
section
namespace Go.Proofs
open Go Go.RowKit Go.Maps
def msAt(ms:List Int)(p:Int):Int:=ms.getD p.toNat 0
def sumAt(ms:List Int)(l:List Int):Int:=(l.map (msAt ms)).sum
structure BalAt(s:dW)(ms:List Int)(x l:Int):Prop where
 g0:s.g0<=x
 g1:x<=s.g1
 l0:s.l0<=l
 l1:l<=s.l1
 eq:sumAt ms s.ins+x=l+sumAt ms s.outs
section
variable [Lo.St]
def insF_in{np:Nat}{M:List Int}:∀{l U:List Int},(oD np M l U).1=0->∀p∈l,p∈M
 | [],_,_=> λp hp=>by simp at hp
 |q::r,U,h=> λp hp=>by
  unfold oD at h
  by_cases h1:kH q 0 ((np:Int)-1)=false
  .rw[if_pos h1]at h;cases h
  .rw[if_neg h1]at h
   by_cases h2:M.contains q=false
   .rw[if_pos h2]at h;cases h
   .rw[if_neg h2]at h
    by_cases h3:U.contains q=true
    .rw[if_pos h3]at h;cases h
    .rw[if_neg h3]at h;rcases List.mem_cons.1 hp with rfl|hp
     .simpa using h2
     .exact insF_in h p hp
def outsF_new{np:Nat}:∀{l M:List Int},(iX np l M).1=0->(∀p∈l,p ∉ M)∧l.Nodup∧(iX np l M).2=M++l
 | [],M,_=>⟨λp hp=>by simp at hp,List.nodup_nil,by simp[iX]⟩
 |q::r,M,h=>by
  unfold iX at h⊢
  by_cases h1:kH q 0 ((np:Int)-1)=false
  .rw[if_pos h1]at h;cases h
  .rw[if_neg h1]at h⊢
   by_cases h2:M.contains q=true
   .rw[if_pos h2]at h;cases h
   .rw[if_neg h2]at h⊢;obtain⟨i1,i2,i3⟩:=outsF_new h;have hq:q ∉ M:=by simpa using h2
    refine⟨λp hp=>?_,List.nodup_cons.2 ⟨λhx=>i1 q hx (by simp),i2⟩,by rw[i3];simp⟩;rcases List.mem_cons.1 hp with rfl|hp
    .exact hq
    .intro hx;exact i1 p hp (by simp[hx])
def stepsF_new{nh np:Nat}:∀{l:List dW}{M U:List Int},(jr nh np l M U).1=0->(∀s∈l,(∀p∈s.outs,p ∉ M)∧s.outs.Nodup∧∀p∈s.outs,p ∉ s.ins)∧l.Pairwise λs t=>∀p∈t.outs,p ∉ s.outs∧p ∉ s.ins
 | [],_,_,_=>⟨λs hs=>by simp at hs,List.Pairwise.nil⟩
 |s::r,M,U,h=>by
  unfold jr at h
  by_cases h1:kH s.hand 0 ((nh:Int)-1)=false
  .rw[if_pos h1]at h;cases h
  rw[if_neg h1]at h
  by_cases h2:(oD np M s.ins U).1≠0
  .rw[if_pos h2]at h;exact absurd h h2
  rw[if_neg h2]at h
  by_cases h3:(iX np s.outs M).1≠0
  .rw[if_pos h3]at h;exact absurd h h3
  rw[if_neg h3]at h
  by_cases h4:eT s.g0 s.g1 0 1000000=false
  .rw[if_pos h4]at h;cases h
  rw[if_neg h4]at h
  by_cases h5:eT s.l0 s.l1 0 1000000=false
  .rw[if_pos h5]at h;cases h
  rw[if_neg h5]at h;have h2:(oD np M s.ins U).1=0:=by simpa using h2
  have h3:(iX np s.outs M).1=0:=by simpa using h3
  obtain⟨a1,a2,a3⟩:=outsF_new h3;rw[a3]at h;obtain⟨b1,b2⟩:=stepsF_new h;have hin:=insF_in h2;refine⟨λt ht=>?_,List.pairwise_cons.2 ⟨λt ht p hp=>?_,b2⟩⟩
  .rcases List.mem_cons.1 ht with rfl|ht
   .exact⟨a1,a2, λp hp hx=>a1 p hp (hin p hx)⟩
   .exact⟨λp hp hx=>(b1 t ht).1 p hp (by simp[hx]),(b1 t ht).2⟩
  .have :=(b1 t ht).1 p hp;simp only[List.mem_append,not_or]at this;exact⟨this.2, λhx=>this.1 (hin p hx)⟩
structure Steady(b:dO)(k:Nat)(s:dW):Prop where
 at_:b.steps[k]?=some s
 nd:s.outs.Nodup
 own:∀p∈s.outs,p ∉ s.ins
 old:∀j t,j<k->b.steps[j]?=some t->∀p∈s.outs,p ∉ t.outs∧p ∉ t.ins
 ins:∀p∈s.ins,0<=p∧p<=(b.dz.length:Int)-1
 outs:∀p∈s.outs,0<=p∧p<=(b.dz.length:Int)-1
 hg:0<=s.g0∧s.g0<=s.g1∧s.g1<=1000000
 hl:0<=s.l0∧s.l0<=s.l1∧s.l1<=1000000
def steady{b:dO}(hc:fG b=0){k:Nat}{s:dW}(h:b.steps[k]?=some s):Steady b k s:=by
 have h0:=(CX (EP hc).2.2.1).2.1;obtain⟨h1,h2⟩:=stepsF_new h0;obtain⟨-,i1,i2,i3,i4⟩:=vE h0 s (List.mem_of_getElem? h);obtain⟨-,c2,c3⟩:=h1 s (List.mem_of_getElem? h);refine⟨h,c2,c3, λj t hj ht p hp=>?_,i1,i2,?_,?_⟩
 .obtain⟨hk,rfl⟩:=List.getElem?_eq_some_iff.1 h;obtain⟨hj',rfl⟩:=List.getElem?_eq_some_iff.1 ht;exact List.pairwise_iff_getElem.1 h2 j k hj' hk hj p hp
 .simp only[eT,Bool.and_eq_true,decide_eq_true_eq]at i3;omega
 .simp only[eT,Bool.and_eq_true,decide_eq_true_eq]at i4;omega
structure Done(b:dO)(k:Nat)(ms ls gs:List Int):Prop where
 lm:ms.length=b.dz.length
 ll:ls.length=k
 lg:gs.length=k
 rg:∀x∈ms,0<=x∧x<=1000000
 bal:∀j s,j<k->b.steps[j]?=some s->BalAt s ms (gs.getD j 0) (ls.getD j 0)
def Done.start(b:dO):Done b 0 (List.replicate b.dz.length 0) [] []:=
 ⟨by simp,rfl,rfl, λx hx=>by obtain rfl:=(List.mem_replicate.1 hx).2;omega, λj s h=>by omega⟩
end
end Go.Proofs
end
section
namespace Go.Proofs
open Go Go.RowKit Go.Maps
variable [Lo.St]
def msAt_rg{ms:List Int}(h:∀x∈ms,0<=x∧x<=1000000)(p:Int):0<=msAt ms p∧msAt ms p<=1000000:=by
 unfold msAt;rw[List.getD_eq_getElem?_getD];cases e:ms[p.toNat]? with
 |none=>exact⟨by simp,by simp⟩
 |some x=>exact h x (List.mem_of_getElem? e)
def pick_rng{a c:Int}(h:a<=c)(z:Int):a<=a+z%(c-a+1)∧a+z%(c-a+1)<=c:=by have h1:=Int.emod_nonneg z (show c-a+1≠0 by omega);have h2:=Int.emod_lt_of_pos z (show 0<c-a+1 by omega);omega
def Lo.pick_to{w:World}{B:Nat}{A:Option Addr}{l:List Int}{c:Nat}{k a b:Int}(h:RdU w B A l)(hu:U16 l)(hB:B<=w.heap.size)(hab:0<=a∧a<=b∧b<=100000000)(hk:0<=k∧k<=10000):
 Calls Lo.prog 10 #[.agg #[.int .i64 a,.int .i64 b],.slice A l.length c,.int .i64 k] w λe w'=>∃x,e=.returned (.int .i64 x)∧a<=x∧x<=b∧Below w.heap.size w w':=by
 have hp:=Lo.pick_is (c:=c) (k:=k.toNat) h hu hB hab (by omega);rw[show((k.toNat:Nat):Int)=k by omega]at hp;refine hp.mono ?_
 rintro e w'⟨rfl,hb⟩;exact⟨_,rfl,(pick_rng hab.2.1 _).1,(pick_rng hab.2.1 _).2,hb⟩
end Go.Proofs
end
section
namespace Go.Proofs
open Go Go.RowKit
variable [Lo.St]
def lO9(o:List Int)(k:Nat):Int:=(o[2*k]?).getD 0
def hI9(o:List Int)(k:Nat):Int:=(o[2*k+1]?).getD 0
def loS(ss:List eX)(s:Nat)(x:eX)(a:Int):Int:=if kJ s x.fr x.to=1 then max a (gM ss s+x.hi)else a
def hiS(ss:List eX)(s:Nat)(x:eX)(a:Int):Int:=if kJ s x.fr x.to=2 then min a (x.lo-gM ss s)else a
def spanAt_at{ss:List eX}{s:Nat}{o:List Int}(ho:o.length=2*ss.length){j k:Nat}{x:eX}(hx:ss[j]?=some x):
 lO9 (xm ss s o j) k=(if k=j then loS ss s x (lO9 o k)else lO9 o k)∧hI9 (xm ss s o j) k=if k=j then hiS ss s x (hI9 o k)else hI9 o k:=by
 have hj:=(List.getElem?_eq_some_iff.1 hx).1;unfold xm;rw[hx];dsimp only;unfold lO9 hI9 loS hiS
 by_cases e:k=j
 .subst e;rw[if_pos rfl,if_pos rfl]
  by_cases h1:kJ s x.fr x.to=1
  .rw[if_pos h1,if_pos h1,if_neg (by rw[h1];decide),List.getElem?_set_self (by omega),List.getElem?_set_ne (by omega)];exact⟨rfl,rfl⟩
  .rw[if_neg h1,if_neg h1]
   by_cases h2:kJ s x.fr x.to=2
   .rw[if_pos h2,if_pos h2,List.getElem?_set_self (by omega),List.getElem?_set_ne (by omega)];exact⟨rfl,rfl⟩
   .rw[if_neg h2,if_neg h2];exact⟨rfl,rfl⟩
 .rw[if_neg e,if_neg e];split
  .rw[List.getElem?_set_ne (by omega),List.getElem?_set_ne (by omega)];exact⟨rfl,rfl⟩
  .split
   .rw[List.getElem?_set_ne (by omega),List.getElem?_set_ne (by omega)];exact⟨rfl,rfl⟩
   .exact⟨rfl,rfl⟩
def rowTo_at{ss:List eX}{s:Nat}{o:List Int}(ho:o.length=2*ss.length){k:Nat}{x:eX}(hx:ss[k]?=some x):∀j,j<=ss.length->
 lO9 (tX ss s o j) k=(if k<j then loS ss s x (lO9 o k)else lO9 o k)∧hI9 (tX ss s o j) k=if k<j then hiS ss s x (hI9 o k)else hI9 o k
 |0,_=>⟨rfl,rfl⟩
 |j+1,hj=>by
  obtain⟨h1,h2⟩:=rowTo_at ho hx (s:=s) j (by omega);obtain⟨h3,h4⟩:=spanAt_at (s:=s) (o:=tX ss s o j) ((zN ss s o j).trans ho) (k:=k) (List.getElem?_eq_getElem (show j<ss.length by omega));unfold tX;rw[h3,h4,h1,h2]
  by_cases e:k=j
  .subst e;rw[List.getElem?_eq_getElem (show k<ss.length by omega)]at hx;have hx:=Option.some.inj hx;rw[hx];simp
  .by_cases hlt:k<j
   .rw[if_neg e,if_neg e,if_pos hlt,if_pos (by omega),if_pos hlt,if_pos (by omega)];exact⟨rfl,rfl⟩
   .rw[if_neg e,if_neg e,if_neg hlt,if_neg (by omega),if_neg hlt,if_neg (by omega)];exact⟨rfl,rfl⟩
def initTo_at{ss:List eX}{k:Nat}{x:eX}(hx:ss[k]?=some x):∀j,j<=ss.length->k<j->lO9 (nY ss j) k=x.lo∧hI9 (nY ss j) k=x.hi
 |j+1,hj,hk=>by
  have hl:=CR ss j (by omega);unfold nY lO9 hI9;rw[List.getElem?_eq_getElem (show j<ss.length by omega)];dsimp only
  by_cases e:k=j
  .subst e;rw[List.getElem?_eq_getElem (show k<ss.length by omega)]at hx;rw[Option.some.inj hx];rw[List.getElem?_append_right (by omega),List.getElem?_append_right (by omega),hl];simp
  .rw[List.getElem?_append_left (by omega),List.getElem?_append_left (by omega)];exact initTo_at hx j (by omega) (by omega)
def sh1_add(s:Nat)(n:Int)(x:eX):OJ s n x=n+OJ s 0 x:=by
 unfold OJ;split
 .omega
 .split<;>omega
end Go.Proofs
end
section
namespace Go.Proofs
open Go Go.RowKit
variable [Lo.St]
structure Ends(ss:List eX)(m:Nat)(x:eX)(l h:Int):Prop where
 l0:x.lo<=l
 h0:h<=x.hi
 l1:∀s,s<m->kJ s x.fr x.to=1->gM ss s+x.hi<=l
 h1:∀s,s<m->kJ s x.fr x.to=2->h<=x.lo-gM ss s
 l2:l=x.lo∨∃s,s<m∧kJ s x.fr x.to=1∧l=gM ss s+x.hi
 h2:h=x.hi∨∃s,s<m∧kJ s x.fr x.to=2∧h=x.lo-gM ss s
def ends_sets{ss:List eX}{k:Nat}{x:eX}(hx:ss[k]?=some x):∀m,Ends ss m x (lO9 (nA ss m) k) (hI9 (nA ss m) k)
 |0=>by obtain⟨h1,h2⟩:=initTo_at hx ss.length (Nat.le_refl _) (List.getElem?_eq_some_iff.1 hx).1;unfold nA;rw[h1,h2];exact⟨Int.le_refl _,Int.le_refl _, λs h=>absurd h (Nat.not_lt_zero _), λs h=>absurd h (Nat.not_lt_zero _),.inl rfl,.inl rfl⟩
 |m+1=>by
  obtain⟨a,b,c,d,e,f⟩:=ends_sets hx m;obtain⟨h1,h2⟩:=rowTo_at (s:=m) (o:=nA ss m) (pV ss m) hx ss.length (Nat.le_refl _);have hk:=(List.getElem?_eq_some_iff.1 hx).1;unfold nA;rw[h1,h2,if_pos hk,if_pos hk];generalize lO9 (nA ss m) k=l at *;generalize hI9 (nA ss m) k=h at *;have hl:l<=loS ss m x l:=by unfold loS;split<;>omega
  have hh:hiS ss m x h<=h:=by unfold hiS;split<;>omega
  refine⟨by omega,by omega, λs hs h=>?_, λs hs h=>?_,?_,?_⟩
  .by_cases q:s=m
   .subst q;unfold loS;rw[if_pos h];omega
   .have :=c s (by omega) h;omega
  .by_cases q:s=m
   .subst q;unfold hiS;rw[if_pos h];omega
   .have :=d s (by omega) h;omega
  .have e':l=x.lo∨∃s,s<m+1∧kJ s x.fr x.to=1∧l=gM ss s+x.hi:=e.imp id λ⟨s,h1,h2⟩=>⟨s,by omega,h2⟩
   unfold loS;split
   .rename_i h;rcases Int.le_total (gM ss m+x.hi) l with q|q
    .rw[Int.max_eq_left q];exact e'
    .rw[Int.max_eq_right q];exact .inr ⟨m,by omega,h,rfl⟩
   .exact e'
  .have f':h=x.hi∨∃s,s<m+1∧kJ s x.fr x.to=2∧h=x.lo-gM ss s:=f.imp id λ⟨s,h1,h2⟩=>⟨s,by omega,h2⟩
   unfold hiS;split
   .rename_i h3;rcases Int.le_total h (x.lo-gM ss m)with q|q
    .rw[Int.min_eq_left q];exact f'
    .rw[Int.min_eq_right q];exact .inr ⟨m,by omega,h3,rfl⟩
   .exact f'
def ends_of{ss:List eX}{nd k:Nat}{x:eX}(hx:ss[k]?=some x):Ends ss (2^ nd) x (lO9 (mG ss nd) k) (hI9 (mG ss nd) k):=ends_sets hx _
def sumC(s:Nat):List eX->Int
 | []=>0
 |x::l=>OJ s 0 x+sumC s l
def short_sum(ss:List eX)(s:Nat):gM ss s=sumC s ss:=by
 have:∀(l:List eX)(n:Int),l.foldl (OJ s) n=n+sumC s l:=by
  intro l
  induction l with
  |nil=>intro n;simp[sumC]
  |cons x l ih=>intro n;rw[List.foldl_cons,ih,sh1_add];show _=n+(OJ s 0 x+sumC s l);omega
 have h:=this ss 0;unfold gM;omega
def holds_mk{ss:List eX}{nd:Nat}(h:∀x∈ss,x.lo<=x.hi)(h2:∀s,s<2^ nd->gM ss s<=0):gN ss nd=true:=by unfold gN iQ sV;rw[Bool.and_eq_true,Bool.not_eq_true',List.any_eq_false,List.all_eq_true];exact⟨λx hx=>by have :=h x hx;simp;omega, λs hs=>by have :=h2 s (List.mem_range.1 hs);simpa using this⟩
end Go.Proofs
end
section
namespace Go.Proofs
open Go Go.RowKit Go.Maps
variable [Lo.St]
def B4{p i:Int}:∀(m:List Int)(l:List (Int×Int)),qg (l++m.map λq=>(q,i)) p=if m.contains p=true then some i else qg l p
 | [],l=>by simp
 |q::r,l=>by
  have e:l++(q::r).map (λq=>(q,i))=(l++ [(q,i)])++r.map λq=>(q,i):=by simp
  rw[e,B4 r,uO]
  by_cases h:r.contains p=true
  .rw[if_pos h,if_pos (by rw[List.contains_cons,h];simp)]
  .rw[if_neg h]
   by_cases h2:q=p
   .rw[if_pos h2,if_pos (by rw[List.contains_cons,h2];simp)]
   .rw[if_neg h2,if_neg (λhh=>by
     rw[List.contains_cons,Bool.or_eq_true]at hh;rcases hh with hh|hh
     .exact h2 (eq_of_beq hh).symm
     .exact h hh)]
def d9{f:dW->List Int}{ss:List dW}{k:Nat}(h:k<ss.length):fP f ss (k+1)=fP f ss k++(f ss[k]).map λq=>(q,(k:Int)):=by rw[fP,List.getElem?_eq_getElem h]
def i9{b:dO}(h:(jr b.dJ.length b.dz.length b.steps [] []).1=0):∀k,k<=b.steps.length->Ju b k
 |0,_=> λj _ h=>absurd h (Nat.not_lt_zero _)
 |k+1,hk=>by
  have ih:=i9 h k (by omega);refine Pg ih (by omega) ?_
  by_cases q:mq b k b.steps[k]=0
  .exact q
  .have e:=Pd (show k<b.steps.length by omega) q;rw[<-tK ih (by omega),xA,h]at e;exact absurd e.symm q
def E4{np:Nat}{M:List Int}:∀{l U:List Int},U.Nodup->(oD np M l U).1=0->(U++l).Nodup
 | [],U,h,_=>by simpa using h
 |p::r,U,h,h2=>by
  unfold oD at h2
  by_cases q1:kH p 0 ((np:Int)-1)=false
  .rw[if_pos q1]at h2;cases h2
  rw[if_neg q1]at h2
  by_cases q2:M.contains p=false
  .rw[if_pos q2]at h2;cases h2
  rw[if_neg q2]at h2
  by_cases q3:U.contains p=true
  .rw[if_pos q3]at h2;cases h2
  rw[if_neg q3]at h2
  have hU:(U++ [p]).Nodup:=List.nodup_append.2 ⟨h,by simp, λa ha c hc=>by obtain rfl:=List.mem_singleton.1 hc;rintro rfl;exact q3 (by simpa using ha)⟩
  have :=E4 hU h2
  rwa [List.append_assoc]at this
def G4{b:dO}(h:Ju b b.steps.length):∀k,k<=b.steps.length->(mM b k).Nodup
 |0,_=>by unfold mM;simp
 |k+1,hk=>by
  have ih:=G4 h k (by omega);have hf:=h k (by omega) (by omega);rw[Ll b (by omega)];refine E4 (np:=b.dz.length) (M:=gB b k) ih ?_
  unfold mq at hf
  by_cases q1:kH b.steps[k].hand 0 ((b.dJ.length:Int)-1)=false
  .rw[if_pos q1]at hf;cases hf
  rw[if_neg q1]at hf
  by_cases q2:(oD b.dz.length (gB b k) b.steps[k].ins (mM b k)).1=0
  .exact q2
  .rw[if_pos q2]at hf;exact absurd hf q2
end Go.Proofs
end
section
namespace Go.Proofs
open Go Go.RowKit Go.Maps
variable [Lo.St]
def net1(s:Nat)(p:eX×Int):Int:=p.2*((bit s p.1.fr:Int)-bit s p.1.to)
def netS(s:Nat)(l:List (eX×Int)):Int:=(l.map (net1 s)).sum
def InAll(l:List (eX×Int)):Prop:=∀p∈l,p.1.lo<=p.2∧p.2<=p.1.hi
def netS_app(s:Nat)(l r:List (eX×Int)):netS s (l++r)=netS s l+netS s r:=by simp[netS]
def sh1_net(s:Nat){p:eX×Int}(h:p.1.lo<=p.2∧p.2<=p.1.hi):OJ s 0 p.1<=net1 s p∧(kJ s p.1.fr p.1.to=1->net1 s p= -p.2∧OJ s 0 p.1= -p.1.hi)∧(kJ s p.1.fr p.1.to=2->net1 s p=p.2∧OJ s 0 p.1=p.1.lo):=by obtain⟨x,a⟩:=p;dsimp only at h⊢;unfold OJ net1 kJ;dsimp only;have h1:=KG s x.fr;have h2:=KG s x.to;generalize bit s x.fr=p at *;generalize bit s x.to=q at *;rcases(by omega:p=0∨p=1)with rfl|rfl<;>rcases(by omega:q=0∨q=1)with rfl|rfl<;>simp <;>omega
def sumC_net(s:Nat):∀{l:List (eX×Int)},InAll l->sumC s (l.map Prod.fst)<=netS s l∧∀p∈l,sumC s (l.map Prod.fst)-OJ s 0 p.1<=netS s l-net1 s p
 | [],_=>⟨Int.le_refl _, λp h=>by cases h⟩
 |q::l,h=>by
  obtain⟨h1,h2⟩:=sumC_net s (l:=l) λp hp=>h p (List.mem_cons_of_mem _ hp)
  have h3:=(sh1_net s (h q List.mem_cons_self)).1;have e:netS s (q::l)=net1 s q+netS s l:=by simp[netS]
  have e2:sumC s ((q::l).map Prod.fst)=OJ s 0 q.1+sumC s (l.map Prod.fst):=rfl;refine⟨by omega, λp hp=>?_⟩;rcases List.mem_cons.1 hp with rfl|hp
  .omega
  .have :=h2 p hp;omega
theorem real_holds{l:List (eX×Int)}{nd:Nat}(h:InAll l)(h0:∀s,netS s l=0):gN (l.map Prod.fst) nd=true:=by
 refine holds_mk (λx hx=>?_) λs _=>?_
 .obtain⟨p,hp,rfl⟩:=List.mem_map.1 hx;have :=h p hp;omega
 .rw[short_sum];have :=(sumC_net s h).1;rw[h0]at this;exact this
def real_spans{l:List (eX×Int)}{nd k:Nat}{p:eX×Int}(h:InAll l)(h0:∀s,netS s l=0)(hk:l[k]?=some p):lO9 (mG (l.map Prod.fst) nd) k<=p.2∧p.2<=hI9 (mG (l.map Prod.fst) nd) k:=by
 have hx:(l.map Prod.fst)[k]?=some p.1:=by rw[List.getElem?_map,hk];rfl
 obtain⟨-, -, -, -,e,f⟩:=ends_of (nd:=nd) hx;have hp:=List.mem_of_getElem? hk;have hi:=h p hp;refine⟨?_,?_⟩
 .rcases e with e|⟨s,_,h1,e⟩
  .omega
  .rw[short_sum]at e;have h2:=(sumC_net s h).2 p hp;rw[h0]at h2;obtain⟨n1,n2⟩:=(sh1_net s hi).2.1 h1;omega
 .rcases f with f|⟨s,_,h1,f⟩
  .omega
  .rw[short_sum]at f;have h2:=(sumC_net s h).2 p hp;rw[h0]at h2;obtain⟨n1,n2⟩:=(sh1_net s hi).2.2 h1;omega
def rsum(f:Nat->Int):Nat->Int
 |0=>0
 |n+1=>rsum f n+f n
def rsum_congr{f g:Nat->Int}:∀{n:Nat},(∀k,k<n->f k=g k)->rsum f n=rsum g n
 |0,_=>rfl
 |n+1,h=>by unfold rsum;rw[rsum_congr λk hk=>h k (by omega),h n (by omega)]
def rsum_add(f g:Nat->Int):∀n,rsum (λk=>f k+g k) n=rsum f n+rsum g n
 |0=>rfl
 |n+1=>by unfold rsum;rw[rsum_add f g n];omega
def rsum_mul(f:Nat->Int)(c:Int):∀n,rsum (λk=>f k*c) n=rsum f n*c
 |0=>by simp[rsum]
 |n+1=>by unfold rsum;rw[rsum_mul f c n,Int.add_mul]
def rsum_zero:∀n,rsum (λ_=>0) n=0
 |0=>rfl
 |n+1=>by unfold rsum;rw[rsum_zero n];rfl
def rsum_one{f:Nat->Int}{q:Nat}:∀{n:Nat},q<n->rsum (λk=>if(k:Int)=(q:Int)then f k else 0) n=f q
 |n+1,h=>by
  unfold rsum
  by_cases e:q=n
  .subst e;rw[if_pos rfl,rsum_congr (g:= λ_=>0) λk hk=>if_neg (by omega),rsum_zero];omega
  .rw[rsum_one (f:=f) (by omega),if_neg (by omega)];omega
def rsum_in{ms:List Int}{n:Nat}:∀{m:List Int},m.Nodup->(∀p∈m,0<=p∧p<(n:Int))->rsum (λk=>if m.contains (k:Int)=true then msAt ms k else 0) n=sumAt ms m
 | [],_,_=>by rw[rsum_congr (g:= λ_=>0) λk hk=>by simp,rsum_zero];rfl
 |q::r,hn,hr=>by
  obtain⟨h1,h2⟩:=List.nodup_cons.1 hn;have ih:=rsum_in (ms:=ms) h2 λp hp=>hr p (List.mem_cons_of_mem _ hp)
  have hq:=hr q List.mem_cons_self;obtain⟨q,rfl⟩:∃j:Nat,q=(j:Int):=⟨q.toNat,by omega⟩;have e:sumAt ms ((q:Int)::r)=msAt ms (q:Int)+sumAt ms r:=by simp[sumAt]
  rw[e, <-ih, <-rsum_one (f:= λk=>msAt ms k) (show q<n by omega), <-rsum_add];refine rsum_congr λk hk=>?_
  by_cases e1:(k:Int)=(q:Int)
  .rw[if_pos e1,e1,if_pos (by simp),if_neg (by simpa using h1)];omega
  .rw[if_neg e1]
   by_cases e2:r.contains (k:Int)=true
   .rw[if_pos e2,if_pos (by rw[List.contains_cons,e2];simp)];omega
   .rw[if_neg e2,if_neg (λhh=>by
     rw[List.contains_cons,Bool.or_eq_true]at hh;rcases hh with hh|hh
     .exact e1 (eq_of_beq hh)
     .exact e2 hh)];omega
def lastOf_none{f:dW->List Int}{ss:List dW}{p:Int}:∀k,k<=ss.length->(∀j s,j<k->ss[j]?=some s->p ∉ f s)->qg (fP f ss k) p=none
 |0,_,_=>rfl
 |k+1,hk,h=>by rw[d9 (by omega),B4,if_neg (by have :=h k _ (by omega) (List.getElem?_eq_getElem (show k<ss.length by omega));simpa using this)];exact lastOf_none k (by omega) λj s hj=>h j s (by omega)
def nodeOf(γ:Nat->Int):Option Int->Int
 |none=>0
 |some i=>γ i.toNat
def piles_steps{f:dW->List Int}{ss:List dW}{ms:List Int}{n:Nat}{γ:Nat->Int}(hn:(ss.flatMap f).Nodup)(hr:∀s∈ss,∀p∈f s,0<=p∧p<(n:Int)):∀k,k<=ss.length->rsum (λp=>msAt ms p*nodeOf γ (qg (fP f ss k) p)) n=rsum (λi=>sumAt ms (f (ss.getD i ⟨0,[],[],0,0,0,0⟩))*γ i) k
 |0,_=>by rw[rsum_congr (g:= λ_=>0) λk hk=>by simp[fP,qg,nodeOf],rsum_zero];rfl
 |k+1,hk=>by
  have ih:=piles_steps (ms:=ms) (γ:=γ) hn hr k (by omega);have hlt:k<ss.length:=by omega
  have hg:ss.getD k ⟨0,[],[],0,0,0,0⟩=ss[k]:=by rw[List.getD_eq_getElem?_getD,List.getElem?_eq_getElem hlt];rfl
  have hd:((ss.take k).flatMap f++(ss.drop k).flatMap f).Nodup:=by rw[<-List.flatMap_append,List.take_append_drop];exact hn
  rw[List.drop_eq_getElem_cons hlt,List.flatMap_cons]at hd;obtain⟨d1,d2,d3⟩:=List.nodup_append.1 hd;have hnd:(f ss[k]).Nodup:=(List.nodup_append.1 d2).1;show rsum _ n=rsum (λi=>sumAt ms (f (ss.getD i ⟨0,[],[],0,0,0,0⟩))*γ i) k+sumAt ms (f (ss.getD k ⟨0,[],[],0,0,0,0⟩))*γ k;rw[hg, <-ih, <-rsum_in hnd (hr _ (List.getElem_mem hlt)), <-rsum_mul, <-rsum_add];refine rsum_congr λp hp=>?_
  rw[d9 hlt,B4]
  by_cases e:(f ss[k]).contains (p:Int)=true
  .rw[if_pos e,if_pos e,lastOf_none k (by omega) λj s hj hs hps=>d3 _ (List.mem_flatMap.2 ⟨s,?_,hps⟩) _ (List.mem_append_left _ (by simpa using e)) rfl]
   .simp[nodeOf]
   .exact List.mem_iff_getElem?.2 ⟨j,by rw[List.getElem?_take_of_lt hj];exact hs⟩
  .rw[if_neg e,if_neg e];omega
def nilStep:dW:=⟨0,[],[],0,0,0,0⟩
def nodup_parts{b:dO}(hc:fG b=0):(b.steps.flatMap dW.outs).Nodup∧(b.steps.flatMap dW.ins).Nodup∧(∀s∈b.steps,∀p∈s.outs,0<=p∧p<(b.dz.length:Int))∧(∀s∈b.steps,∀p∈s.ins,0<=p∧p<(b.dz.length:Int))∧∀p:Nat,p<b.dz.length->(p:Int)∈b.steps.flatMap dW.outs:=by
 obtain⟨-,h2,h3⟩:=CX (EP hc).2.2.1;have hok:=i9 h2 _ (Nat.le_refl _);obtain⟨n1,n2⟩:=Dw hok (Nat.le_refl _);have e2:(jr b.dJ.length b.dz.length b.steps [] []).2=gB b b.steps.length:=by rw[<-xA,tK hok (Nat.le_refl _),E9]
 have n3:=G4 hok _ (Nat.le_refl _);have hm:gB b b.steps.length=b.steps.flatMap dW.outs:=by unfold gB;rw[List.take_length]
 have hu:mM b b.steps.length=b.steps.flatMap dW.ins:=by unfold mM;rw[List.take_length]
 refine⟨hm ▸ n1,hu ▸ n3, λs hs p hp=>n2 p (hm ▸ List.mem_flatMap.2 ⟨s,hs,hp⟩), λs hs p hp=>?_, λp hp=>?_⟩
 .have :=(vE h2 s hs).2.1 p hp;omega
 .rw[<-hm];cases e:(gB b b.steps.length).contains (p:Int)with
  |true=>simpa using e
  |false=>rw[e2]at h3;exact absurd (Pf n1 n2 hp e) h3
def lastOf_some{f:dW->List Int}{ss:List dW}{p i:Int}:∀k,k<=ss.length->qg (fP f ss k) p=some i->∃j:Nat,j<k∧i=(j:Int)
 |0,_,h=>by simp[fP,qg]at h
 |k+1,hk,h=>by
  rw[d9 (by omega),B4]at h;split at h
  .cases h;exact⟨k,by omega,rfl⟩
  .obtain⟨j,h1,h2⟩:=lastOf_some k (by omega) h;exact⟨j,by omega,h2⟩
def lastOf_has{f:dW->List Int}{ss:List dW}{p:Int}:∀k,k<=ss.length->(∃j s,j<k∧ss[j]?=some s∧p∈f s)->qg (fP f ss k) p≠none
 |0,_,h=>by obtain⟨j,s,h1,_⟩:=h;omega
 |k+1,hk,h=>by
  rw[d9 (by omega),B4];split
  .simp
  .rename_i hx;refine lastOf_has k (by omega) ?_
   obtain⟨j,s,h1,h2,h3⟩:=h
   by_cases e:j=k
   .subst e;rw[List.getElem?_eq_getElem (by omega)]at h2;cases h2;exact absurd (by simpa using h3) hx
   .exact⟨j,s,by omega,h2,h3⟩
def stepA(n:Nat)(hand:Int)(i:Nat)(s:dW)(g l:Int):List (eX×Int):=[(⟨s.g0,s.g1,n,i⟩,g),(⟨s.l0,s.l1,i,if s.hand=hand then n+1 else n⟩,l)]
def stepsA(b:dO)(hand:Int)(ls gs:List Int):Nat->List (eX×Int)
 |0=>[]
 |k+1=>stepsA b hand ls gs k++(match b.steps[k]? with |some s=>stepA b.steps.length hand k s (gs.getD k 0) (ls.getD k 0)|none=>[])
def handSum(b:dO)(ls:List Int)(hand:Int)(k:Nat):Int:=rsum (λi=>if(b.steps.getD i nilStep).hand=hand then ls.getD i 0 else 0) k
def webA(b:dO)(hand:Int)(ms ls gs:List Int):List (eX×Int):=
 (List.range b.dz.length).map (λp=>(mh b p,msAt ms p))++stepsA b hand ls gs b.steps.length++(if 0<=hand then[(⟨0,8000000,b.steps.length+1,b.steps.length⟩,handSum b ls hand b.steps.length)]else[])
def stepsA_fst(b:dO)(hand:Int)(ls gs:List Int):∀k,(stepsA b hand ls gs k).map Prod.fst=fq b hand k
 |0=>rfl
 |k+1=>by unfold stepsA fq;rw[List.map_append,stepsA_fst b hand ls gs k];cases b.steps[k]?<;>rfl
def webA_fst(b:dO)(hand:Int)(ms ls gs:List Int):(webA b hand ms ls gs).map Prod.fst=fA b hand:=by
 unfold webA fA eG;rw[List.map_append,List.map_append,stepsA_fst];congr 1
 .congr 1;rw[List.map_map];rfl
 .split<;>rfl
def stepsA_net{b:dO}{hand:Int}{ls gs:List Int}{s:Nat}:∀k,k<=b.steps.length->netS s (stepsA b hand ls gs k)=rsum (λi=>gs.getD i 0*((bit s b.steps.length:Int)-bit s i)+ls.getD i 0*((bit s i:Int)-bit s (if(b.steps.getD i nilStep).hand=hand then b.steps.length+1 else b.steps.length))) k
 |0,_=>rfl
 |k+1,hk=>by
  have hg:b.steps.getD k nilStep=b.steps[k]:=by rw[List.getD_eq_getElem?_getD,List.getElem?_eq_getElem (by omega)];rfl
  rw[stepsA,netS_app,stepsA_net k (by omega),List.getElem?_eq_getElem (show k<b.steps.length by omega)];show _=rsum _ k+_;dsimp only;rw[hg];simp[netS,stepA,net1]
def netS_range(s:Nat)(f:Nat->eX×Int):∀n,netS s ((List.range n).map f)=rsum (λk=>net1 s (f k)) n
 |0=>rfl
 |n+1=>by rw[List.range_succ,List.map_append,netS_app,netS_range s f n];show _=rsum _ n+_;simp[netS]
def step_alg{So ν3 g l a n x:Int}(hb:ν3+g=l+So):So*(a-n)-ν3*(a-n)+(g*(n-a)+l*(a-x))=l*(n-x):=by
 obtain rfl:So=ν3+g-l:=by omega
 simp only[Int.add_mul,Int.sub_mul,Int.mul_sub];omega
def webA_net{b:dO}(hc:fG b=0){ms ls gs:List Int}(hd:Done b b.steps.length ms ls gs){hand:Int}(hh: -1<=hand)(s:Nat):netS s (webA b hand ms ls gs)=0:=by
 obtain⟨n1,n2,r1,r2,hall⟩:=nodup_parts hc;obtain⟨N,hN⟩:∃N,b.steps.length=N:=⟨_,rfl⟩;obtain⟨γ,hγ⟩:∃γ:Nat->Int,γ= λi=>(bit s i:Int)-bit s N:=⟨_,rfl⟩
 have k1:=piles_steps (ms:=ms) (γ:=γ) n1 r1 b.steps.length (Nat.le_refl _);have k2:=piles_steps (ms:=ms) (γ:=γ) n2 r2 b.steps.length (Nat.le_refl _)
 have hp:netS s ((List.range b.dz.length).map λp=>(mh b p,msAt ms p))=rsum (λp=>msAt ms p*nodeOf γ (qg (fP dW.outs b.steps b.steps.length) p)) b.dz.length-rsum (λp=>msAt ms p*nodeOf γ (qg (fP dW.ins b.steps b.steps.length) p)) b.dz.length:=by
  have e:∀p,p<b.dz.length->net1 s (mh b p,msAt ms p)=msAt ms p*nodeOf γ (qg (fP dW.outs b.steps b.steps.length) p)+msAt ms p*nodeOf γ (qg (fP dW.ins b.steps b.steps.length) p)* -1:= λp hp=>by
   unfold net1 mh tq qO;dsimp only;obtain⟨st,hs1,hs2⟩:=List.mem_flatMap.1 (hall p hp);obtain⟨j,hj,rfl⟩:=List.mem_iff_getElem.1 hs1;have h3:=lastOf_has (f:=dW.outs) (p:=(p:Int)) b.steps.length (Nat.le_refl _) ⟨j,_,hj,List.getElem?_eq_getElem hj,hs2⟩;cases e1:qg (fP dW.outs b.steps b.steps.length) (p:Int)with
   |none=>exact absurd e1 h3
   |some i=>
    obtain⟨i, -,rfl⟩:=lastOf_some _ (Nat.le_refl _) e1;cases e2:qg (fP dW.ins b.steps b.steps.length) (p:Int)with
    |none=>
     simp[nodeOf,hγ,hN]
    |some u=>
     obtain⟨u, -,rfl⟩:=lastOf_some _ (Nat.le_refl _) e2;simp only[nodeOf,hγ,Option.getD_some,Int.toNat_natCast];rw[Int.mul_assoc, <-Int.mul_add];congr 1;omega
  rw[netS_range,rsum_congr e,rsum_add,rsum_mul];omega
 have hs:=stepsA_net (hand:=hand) (ls:=ls) (gs:=gs) (s:=s) b.steps.length (Nat.le_refl _);unfold webA;rw[netS_app,netS_app,hp,k1,k2,hs]
 have hz:∀k,k<=b.steps.length->rsum (λi=>sumAt ms (b.steps.getD i nilStep).outs*γ i) k-rsum (λi=>sumAt ms (b.steps.getD i nilStep).ins*γ i) k+rsum (λi=>gs.getD i 0*((bit s b.steps.length:Int)-bit s i)+ls.getD i 0*((bit s i:Int)-bit s (if(b.steps.getD i nilStep).hand=hand then b.steps.length+1 else b.steps.length))) k=handSum b ls hand k*((bit s b.steps.length:Int)-bit s (b.steps.length+1)):=by
  intro k
  induction k with
  |zero=>intro _;simp[rsum,handSum]
  |succ k ih=>
   intro hk;have ih:=ih (by omega);obtain⟨-, -, -, -,hb⟩:=hd.bal k b.steps[k] (by omega) (List.getElem?_eq_getElem (by omega));have hg:b.steps.getD k nilStep=b.steps[k]:=by rw[List.getD_eq_getElem?_getD,List.getElem?_eq_getElem (by omega)];rfl
   have e1:handSum b ls hand (k+1)=handSum b ls hand k+(if(b.steps.getD k nilStep).hand=hand then ls.getD k 0 else 0):=rfl;have e2:∀f:Nat->Int,rsum f (k+1)=rsum f k+f k:= λ_=>rfl
   rw[e1,e2,e2,e2,Int.add_mul, <-ih,hg]
   have hx:sumAt ms b.steps[k].outs*γ k-sumAt ms b.steps[k].ins*γ k+(gs.getD k 0*((bit s b.steps.length:Int)-bit s k)+ls.getD k 0*((bit s k:Int)-bit s (if b.steps[k].hand=hand then b.steps.length+1 else b.steps.length)))=(if b.steps[k].hand=hand then ls.getD k 0 else 0)*((bit s b.steps.length:Int)-bit s (b.steps.length+1)):=by
    have e3:γ k=(bit s k:Int)-bit s b.steps.length:=by rw[hγ,hN]
    rw[e3,step_alg hb];split
    .rfl
    .rw[Int.sub_self,Int.mul_zero,Int.zero_mul]
   omega
 have h1:=hz _ (Nat.le_refl _);have h1':rsum (λi=>sumAt ms (b.steps.getD i ⟨0,[],[],0,0,0,0⟩).outs*γ i) b.steps.length-rsum (λi=>sumAt ms (b.steps.getD i ⟨0,[],[],0,0,0,0⟩).ins*γ i) b.steps.length+rsum (λi=>gs.getD i 0*((bit s b.steps.length:Int)-bit s i)+ls.getD i 0*((bit s i:Int)-bit s (if(b.steps.getD i nilStep).hand=hand then b.steps.length+1 else b.steps.length))) b.steps.length=handSum b ls hand b.steps.length*((bit s b.steps.length:Int)-bit s (b.steps.length+1)):=h1;rw[h1']
 by_cases h0:0<=hand
 .rw[if_pos h0];simp only[netS,net1,List.map_cons,List.map_nil,List.sum_cons,List.sum_nil,Int.mul_sub];omega
 .rw[if_neg h0]
  have h9:∀k,k<=b.steps.length->handSum b ls hand k=0:=by
   intro k
   induction k with
   |zero=>intro _;rfl
   |succ k ih=>
    intro hk;have e1:handSum b ls hand (k+1)=handSum b ls hand k+(if(b.steps.getD k nilStep).hand=hand then ls.getD k 0 else 0):=rfl;have hg:b.steps.getD k nilStep=b.steps[k]:=by rw[List.getD_eq_getElem?_getD,List.getElem?_eq_getElem (by omega)];rfl
    have hh2:=(vE (CX (EP hc).2.2.1).2.1 _ (List.getElem_mem (show k<b.steps.length by omega))).1
    have hh3:0<=b.steps[k].hand:=by simp only[kH,Bool.and_eq_true,decide_eq_true_eq]at hh2;omega
    rw[e1,ih (by omega),hg,if_neg (show¬b.steps[k].hand=hand by omega)];rfl
  rw[h9 _ (Nat.le_refl _)];simp[netS]
def FitAll(ms:List Int)(l:List jD):Prop:=∀t∈l,t.lo<=msAt ms t.pile∧msAt ms t.pile<=t.hi
def bd_fit{ms:List Int}(hr:∀x∈ms,0<=x∧x<=1000000){p:Int}{l:List jD}(h:FitAll ms l):(je l p).1<=msAt ms p∧msAt ms p<=(je l p).2:=by
 have key:∀(l:List jD)(x:Int×Int),FitAll ms l->x.1<=msAt ms p->msAt ms p<=x.2->(l.foldl (PU p) x).1<=msAt ms p∧msAt ms p<=(l.foldl (PU p) x).2:=by
  intro l
  induction l with
  |nil=>intro x _ h1 h2;exact⟨h1,h2⟩
  |cons t r ih=>
   intro x hf h1 h2;rw[List.foldl_cons];obtain⟨a1,a2⟩:=hf t List.mem_cons_self;refine ih _ (λu hu=>hf u (List.mem_cons_of_mem _ hu)) ?_ ?_<;>unfold PU<;>split
   .rename_i e;subst e;dsimp only;omega
   .exact h1
   .rename_i e;subst e;dsimp only;omega
   .exact h2
 have h0:=msAt_rg hr p;exact key l (0,1000000) h h0.1 h0.2
def mem_stepsA{b:dO}{hand:Int}{ls gs:List Int}{p:eX×Int}:∀k,k<=b.steps.length->p∈stepsA b hand ls gs k->∃j s,j<k∧b.steps[j]?=some s∧((p.1.lo=s.g0∧p.1.hi=s.g1∧p.2=gs.getD j 0)∨(p.1.lo=s.l0∧p.1.hi=s.l1∧p.2=ls.getD j 0))
 |0,_,h=>by cases h
 |k+1,hk,h=>by
  unfold stepsA at h;rcases List.mem_append.1 h with h|h
  .obtain⟨j,s,h1,h2⟩:=mem_stepsA k (by omega) h;exact⟨j,s,by omega,h2⟩
  .rw[List.getElem?_eq_getElem (show k<b.steps.length by omega)]at h;refine⟨k,b.steps[k],by omega,List.getElem?_eq_getElem (by omega),?_⟩;simp only[stepA,List.mem_cons,List.not_mem_nil,or_false]at h;rcases h with rfl|rfl
   .exact .inl ⟨rfl,rfl,rfl⟩
   .exact .inr ⟨rfl,rfl,rfl⟩
def handSum_rg{b:dO}(hc:fG b=0){ms ls gs:List Int}(hd:Done b b.steps.length ms ls gs)(hand:Int):∀k,k<=b.steps.length->0<=handSum b ls hand k∧handSum b ls hand k<=1000000*k
 |0,_=>by simp[handSum,rsum]
 |k+1,hk=>by have ih:=handSum_rg hc hd hand k (by omega);obtain⟨-, -,b1,b2, -⟩:=hd.bal k b.steps[k] (by omega) (List.getElem?_eq_getElem (by omega));have S:=(steady hc (List.getElem?_eq_getElem (show k<b.steps.length by omega))).hl;have e1:handSum b ls hand (k+1)=handSum b ls hand k+(if(b.steps.getD k nilStep).hand=hand then ls.getD k 0 else 0):=rfl;rw[e1];split<;>omega
def webA_in{b:dO}(hc:fG b=0){ms ls gs:List Int}(hd:Done b b.steps.length ms ls gs)(hf:FitAll ms b.dA)(hn:b.steps.length<=8)(hand:Int):InAll (webA b hand ms ls gs):= λp hp=>by
 unfold webA at hp;rcases List.mem_append.1 hp with hp|hp
 .rcases List.mem_append.1 hp with hp|hp
  .obtain⟨q,hq,rfl⟩:=List.mem_map.1 hp;exact bd_fit hd.rg hf
  .obtain⟨j,s,hj,hs,h⟩:=mem_stepsA _ (Nat.le_refl _) hp;obtain⟨a1,a2,a3,a4, -⟩:=hd.bal j s hj hs;rcases h with⟨e1,e2,e3⟩|⟨e1,e2,e3⟩<;>rw[e1,e2,e3]<;>exact⟨by assumption,by assumption⟩
 .split at hp
  .obtain rfl:=List.mem_singleton.1 hp;have :=handSum_rg hc hd hand b.steps.length (Nat.le_refl _);dsimp only;omega
  .cases hp
section
variable {b:dO} {ms ls gs:List Int}
section
variable (hc:fG b=0) (hd:Done b b.steps.length ms ls gs) (hf:FitAll ms b.dA) (hn:b.steps.length<=8)
include hc hd hf hn
theorem real_web{hand:Int}(hh: -1<=hand):gN (fA b hand) (dZ b hand)=true:=by rw[<-webA_fst b hand ms ls gs];exact real_holds (webA_in hc hd hf hn hand) λs=>webA_net hc hd hh s
theorem real_at{hand:Int}(hh: -1<=hand){k:Nat}{p:eX×Int}(hk:(webA b hand ms ls gs)[k]?=some p):lO9 (mG (fA b hand) (dZ b hand)) k<=p.2∧p.2<=hI9 (mG (fA b hand) (dZ b hand)) k:=by
 have :=real_spans (nd:=dZ b hand) (webA_in hc hd hf hn hand) (λs=>webA_net hc hd hh s) hk
 rwa [webA_fst]at this
theorem real_mass{k:Nat}(hk:k<b.dz.length):lO9 (p8 b) k<=msAt ms k∧msAt ms k<=hI9 (p8 b) k:=by
 refine real_at hc hd hf hn (hand:= -1) (by omega) (p:=(mh b k,msAt ms k)) ?_
 unfold webA;rw[List.getElem?_append_left (by simp;omega),List.getElem?_append_left (by simp;omega)];simp[hk]
end
end
end Go.Proofs
end
