/- Part 3. -/
import Derived.RangeFuncRecord
import Derived.Test.YtmhmpoeoapkbaaaGreatH28
set_option maxRecDepth 100000
set_option maxHeartbeats 0
set_option linter.all false
section
namespace Go.Proofs
open Go Go.RowKit Go.Maps
def qc0(picks:List Int)(k:Nat):Int:=(picks[k]?).getD ((k:Int)*37)
def qc7(l:List Int)(i j:Nat):Value:=.int .u16 ((l[i]?).getD 0)
abbrev RdU(w:World)(B:Nat)(A:Option Addr)(l:List Int):Prop:=Rd w B 1 A l.length (qc7 l)
def U16(l:List Int):Prop:=∀x∈l,0<=x∧x<65536
variable [Lo.St]
theorem Lo.qd2{w:World}{B:Nat}{A:Option Addr}{l:List Int}{c k:Nat}{a b:Int}(h:RdU w B A l)(hu:U16 l)(hB:B<=w.heap.size)(hab:0<=a∧a<=b∧b<=100000000)(hk:k<=10000):
 Calls Lo.prog 24 #[.agg #[.int .i64 a,.int .i64 b],.slice A l.length c,.int .i64 (k:Int)] w λe w'=>e=.returned (.int .i64 (a+qc0 l k%(b-a+1)))∧Below w.heap.size w w':=by
 obtain⟨U,U2,U3,U4,U5,U6⟩:=Lo.facts;obtain⟨ha,hle,hb⟩:=hab
 have key:∀x:Int,0<=x->x<2000000->IntKind.i64.wrap (b-a)=b-a∧IntKind.i64.wrap (b-a+1)=b-a+1∧¬(b-a+1=0)∧x.tmod (b-a+1)=x%(b-a+1)∧IntKind.i64.wrap (x%(b-a+1))=x%(b-a+1)∧IntKind.i64.wrap (a+x%(b-a+1))=a+x%(b-a+1)∧IntKind.i64.wrap x=x:= λx h0 h1=>by
  have m1:0<=x%(b-a+1):=Int.emod_nonneg _ (by omega);have m2:x%(b-a+1)<b-a+1:=Int.emod_lt_of_pos _ (by omega);refine⟨?_,?_,by omega,Int.tmod_eq_emod_of_nonneg h0,?_,?_,?_⟩<;>(rw[IntKind.wrap_i64];omega)
 by_cases hlt:k<l.length
 .have hlt':(k:Int)<(l.length:Int):=by omega
  obtain⟨bb,off,rfl,hbb,hc⟩:=h (by omega);have r:=hc k 0 hlt (by omega);rw[show off+(k*1+0)=off+k by omega]at r;have e:qc0 l k=l[k]:=by unfold qc0;rw[List.getElem?_eq_getElem hlt];rfl
  have e2:qc7 l k 0=.int .u16 l[k]:=by unfold qc7;rw[List.getElem?_eq_getElem hlt];rfl
  have hx:=hu _ (List.getElem_mem hlt);rw[e];rw[e2]at r;generalize l[k]=x at r hx;obtain⟨i1,i2,i3,i4,i5,i6,i7⟩:=key x hx.1 (by omega);have r2:∀o,(w.alloc o).cell? ⟨bb,off+k,none⟩=some (.int .u16 x):= λo=>(World.cell?_alloc_past _ _ _ (by show bb<w.heap.size;omega)).trans r
  have iw:IntKind.i64.wrap ((k:Int)*37)=(k:Int)*37:=by rw[IntKind.wrap_i64];omega
  clear hc key e e2 h hu;go_enter Lo.get Tryz.func24,Tryz.ntmps24;go_wp2;obtain⟨X,hX⟩:∃X,w.alloc (.cells #[.int .i64 a,.int .i64 b] 48)=X:=⟨_,rfl⟩;have hXb:X.heap[w.heap.size]?=some (.cells #[.int .i64 a,.int .i64 b] 48):=hX ▸ World.alloc_heap_new _ _
  have hXw:Below w.heap.size w X:=hX ▸ (Below.refl _ _).alloc (Nat.le_refl _) _;obtain⟨x0,x1, -, -⟩:=KV hXb;rw[hX];have HX:=Lib.hid hXw;clear hX hXb hXw
  go_still_tail 11,Lo.mixed
  change wpList _ _ _ _ _ X.drew;go_wp2;go_ret;exact⟨rfl,HX.out.drew⟩
 .have hlt':¬(k:Int)<(l.length:Int):=by omega
  have e:qc0 l k=(k:Int)*37:=by unfold qc0;rw[List.getElem?_eq_none (by omega)];rfl
  rw[e];obtain⟨i1,i2,i3,i4,i5,i6,i7⟩:=key ((k:Int)*37) (by omega) (by omega);clear key e h hu;go_enter Lo.get Tryz.func24,Tryz.ntmps24;go_wp2;obtain⟨X,hX⟩:∃X,w.alloc (.cells #[.int .i64 a,.int .i64 b] 48)=X:=⟨_,rfl⟩;have hXb:X.heap[w.heap.size]?=some (.cells #[.int .i64 a,.int .i64 b] 48):=hX ▸ World.alloc_heap_new _ _
  have hXw:Below w.heap.size w X:=hX ▸ (Below.refl _ _).alloc (Nat.le_refl _) _;obtain⟨x0,x1, -, -⟩:=KV hXb;rw[hX];have HX:=Lib.hid hXw;clear hX hXb hXw
  go_still_tail 11,Lo.mixed
  change wpList _ _ _ _ _ X.drew;go_wp2;go_ret;exact⟨rfl,HX.out.drew⟩
end Go.Proofs
end
section
namespace Go.Proofs
open Go Go.RowKit
variable [Lo.St]
def lO9(o:List Int)(k:Nat):Int:=(o[2*k]?).getD 0
def hI9(o:List Int)(k:Nat):Int:=(o[2*k+1]?).getD 0
def loS(ss:List eX)(s:Nat)(x:eX)(a:Int):Int:=if kJ s x.fr x.to=1 then max a (gM ss s+x.hi)else a
def hiS(ss:List eX)(s:Nat)(x:eX)(a:Int):Int:=if kJ s x.fr x.to=2 then min a (x.lo-gM ss s)else a
theorem qc8{ss:List eX}{s:Nat}{o:List Int}(ho:o.length=2*ss.length){j k:Nat}{x:eX}(hx:ss[j]?=some x):
 lO9 (xm ss s o j) k=(if k=j then loS ss s x (lO9 o k)else lO9 o k)∧hI9 (xm ss s o j) k=if k=j then hiS ss s x (hI9 o k)else hI9 o k:=by
 have hj:=(List.getElem?_eq_some_iff.1 hx).1;unfold xm;rw[hx];dsimp only;unfold lO9 hI9 loS hiS
 by_cases e:k=j
 .subst e;rw[if_pos rfl,if_pos rfl]
  by_cases h1:kJ s x.fr x.to=1
  .rw[if_pos h1,if_pos h1,if_neg (by rw[h1];decide),List.getElem?_set_self (by omega),List.getElem?_set_ne (by omega)];exact⟨rfl,rfl⟩
  .rw[if_neg h1,if_neg h1]
   by_cases h2:kJ s x.fr x.to=2
   .rw[if_pos h2,if_pos h2,List.getElem?_set_self (by omega),List.getElem?_set_ne (by omega)];exact⟨rfl,rfl⟩
   .rw[if_neg h2,if_neg h2];exact⟨rfl,rfl⟩
 .rw[if_neg e,if_neg e];split
  .rw[List.getElem?_set_ne (by omega),List.getElem?_set_ne (by omega)];exact⟨rfl,rfl⟩
  .split
   .rw[List.getElem?_set_ne (by omega),List.getElem?_set_ne (by omega)];exact⟨rfl,rfl⟩
   .exact⟨rfl,rfl⟩
theorem qbu{ss:List eX}{s:Nat}{o:List Int}(ho:o.length=2*ss.length){k:Nat}{x:eX}(hx:ss[k]?=some x):∀j,j<=ss.length->
 lO9 (tX ss s o j) k=(if k<j then loS ss s x (lO9 o k)else lO9 o k)∧hI9 (tX ss s o j) k=if k<j then hiS ss s x (hI9 o k)else hI9 o k
 |0,_=>⟨rfl,rfl⟩
 |j+1,hj=>by
  obtain⟨h1,h2⟩:=qbu ho hx (s:=s) j (by omega);obtain⟨h3,h4⟩:=qc8 (s:=s) (o:=tX ss s o j) ((zN ss s o j).trans ho) (k:=k) (List.getElem?_eq_getElem (show j<ss.length by omega));unfold tX;rw[h3,h4,h1,h2]
  by_cases e:k=j
  .subst e;rw[List.getElem?_eq_getElem (show k<ss.length by omega)]at hx;have hx:=Option.some.inj hx;rw[hx];simp
  .by_cases hlt:k<j
   .rw[if_neg e,if_neg e,if_pos hlt,if_pos (by omega),if_pos hlt,if_pos (by omega)];exact⟨rfl,rfl⟩
   .rw[if_neg e,if_neg e,if_neg hlt,if_neg (by omega),if_neg hlt,if_neg (by omega)];exact⟨rfl,rfl⟩
theorem qb9{ss:List eX}{k:Nat}{x:eX}(hx:ss[k]?=some x):∀j,j<=ss.length->k<j->lO9 (nY ss j) k=x.lo∧hI9 (nY ss j) k=x.hi
 |j+1,hj,hk=>by
  have hl:=CR ss j (by omega);unfold nY lO9 hI9;rw[List.getElem?_eq_getElem (show j<ss.length by omega)];dsimp only
  by_cases e:k=j
  .subst e;rw[List.getElem?_eq_getElem (show k<ss.length by omega)]at hx;rw[Option.some.inj hx];rw[List.getElem?_append_right (by omega),List.getElem?_append_right (by omega),hl];simp
  .rw[List.getElem?_append_left (by omega),List.getElem?_append_left (by omega)];exact qb9 hx j (by omega) (by omega)
theorem qd3(s:Nat)(n:Int)(x:eX):OJ s n x=n+OJ s 0 x:=by
 unfold OJ;split
 .omega
 .split<;>omega
theorem qba(o:List Int)(np:Nat):∀{n k:Nat},k<n->lO9 (qU o np n) k=lO9 o (np+2*k+1)∧hI9 (qU o np n) k=hI9 o (np+2*k+1)
 |n+1,k,h=>by
  have hl:=Dk o np n;unfold lO9 hI9;rw[qU]
  by_cases e:k=n
  .subst e;rw[List.getElem?_append_right (by omega),List.getElem?_append_right (by omega),hl,Nat.sub_self,show 2*k+1-2*k=1 by omega];exact⟨rfl,rfl⟩
  .rw[List.getElem?_append_left (by omega),List.getElem?_append_left (by omega)];exact qba o np (by omega)
end Go.Proofs
end
section
namespace Go.Proofs
open Go Go.RowKit
variable [Lo.St]
structure Ends(ss:List eX)(m:Nat)(x:eX)(l h:Int):Prop where
 l0:x.lo<=l
 h0:h<=x.hi
 l1:∀s,s<m->kJ s x.fr x.to=1->gM ss s+x.hi<=l
 h1:∀s,s<m->kJ s x.fr x.to=2->h<=x.lo-gM ss s
 l2:l=x.lo∨∃s,s<m∧kJ s x.fr x.to=1∧l=gM ss s+x.hi
 h2:h=x.hi∨∃s,s<m∧kJ s x.fr x.to=2∧h=x.lo-gM ss s
theorem qbb{ss:List eX}{k:Nat}{x:eX}(hx:ss[k]?=some x):∀m,Ends ss m x (lO9 (nA ss m) k) (hI9 (nA ss m) k)
 |0=>by
  obtain⟨h1,h2⟩:=qb9 hx ss.length (Nat.le_refl _) (List.getElem?_eq_some_iff.1 hx).1;unfold nA;rw[h1,h2];exact⟨Int.le_refl _,Int.le_refl _, λs h=>absurd h (Nat.not_lt_zero _), λs h=>absurd h (Nat.not_lt_zero _),.inl rfl,.inl rfl⟩
 |m+1=>by
  obtain⟨a,b,c,d,e,f⟩:=qbb hx m;obtain⟨h1,h2⟩:=qbu (s:=m) (o:=nA ss m) (pV ss m) hx ss.length (Nat.le_refl _);have hk:=(List.getElem?_eq_some_iff.1 hx).1;unfold nA;rw[h1,h2,if_pos hk,if_pos hk];generalize lO9 (nA ss m) k=l at *;generalize hI9 (nA ss m) k=h at *;have hl:l<=loS ss m x l:=by unfold loS;split<;>omega
  have hh:hiS ss m x h<=h:=by unfold hiS;split<;>omega
  refine⟨by omega,by omega, λs hs h=>?_, λs hs h=>?_,?_,?_⟩
  .by_cases q:s=m
   .subst q;unfold loS;rw[if_pos h];omega
   .have :=c s (by omega) h;omega
  .by_cases q:s=m
   .subst q;unfold hiS;rw[if_pos h];omega
   .have :=d s (by omega) h;omega
  .have e':l=x.lo∨∃s,s<m+1∧kJ s x.fr x.to=1∧l=gM ss s+x.hi:=e.imp id λ⟨s,h1,h2⟩=>⟨s,by omega,h2⟩
   unfold loS;split
   .rename_i h;rcases Int.le_total (gM ss m+x.hi) l with q|q
    .rw[Int.max_eq_left q];exact e'
    .rw[Int.max_eq_right q];exact .inr ⟨m,by omega,h,rfl⟩
   .exact e'
  .have f':h=x.hi∨∃s,s<m+1∧kJ s x.fr x.to=2∧h=x.lo-gM ss s:=f.imp id λ⟨s,h1,h2⟩=>⟨s,by omega,h2⟩
   unfold hiS;split
   .rename_i h3;rcases Int.le_total h (x.lo-gM ss m)with q|q
    .rw[Int.min_eq_left q];exact f'
    .rw[Int.min_eq_right q];exact .inr ⟨m,by omega,h3,rfl⟩
   .exact f'
theorem qd4{ss:List eX}{nd k:Nat}{x:eX}(hx:ss[k]?=some x):Ends ss (2^ nd) x (lO9 (mG ss nd) k) (hI9 (mG ss nd) k):=qbb hx _
def qcB(s:Nat):List eX->Int
 | []=>0
 |x::l=>OJ s 0 x+qcB s l
theorem qaE(ss:List eX)(s:Nat):gM ss s=qcB s ss:=by
 have:∀(l:List eX)(n:Int),l.foldl (OJ s) n=n+qcB s l:=by
  intro l
  induction l with
  |nil=>intro n;simp[qcB]
  |cons x l ih=>intro n;rw[List.foldl_cons,ih,qd3];show _=n+(OJ s 0 x+qcB s l);omega
 have h:=this ss 0;unfold gM;omega
theorem qcC{ss:List eX}{nd:Nat}(h:∀x∈ss,x.lo<=x.hi)(h2:∀s,s<2^ nd->gM ss s<=0):gN ss nd=true:=by
 unfold gN iQ sV;rw[Bool.and_eq_true,Bool.not_eq_true',List.any_eq_false,List.all_eq_true];exact⟨λx hx=>by have :=h x hx;simp;omega, λs hs=>by have :=h2 s (List.mem_range.1 hs);simpa using this⟩
end Go.Proofs
end
section
namespace Go.Proofs
open Go Go.RowKit Go.Maps
variable [Lo.St]
def cells3(l:List jD):List Value:=l.flatMap λx=>[.int .i64 x.pile,.int .i64 x.lo,.int .i64 x.hi]
theorem qaM(l:List jD){i j:Nat}(hi:i<l.length)(hj:j<3):(cells3 l)[i*3+j]?=some (vD l i j):=by
 induction l generalizing i with
 |nil=>exact absurd hi (Nat.not_lt_zero _)
 |cons x l ih=>
  unfold cells3;simp only[List.flatMap_cons];rcases i with _|i
  .obtain rfl|rfl|rfl:j=0∨j=1∨j=2:=by omega
   all_goals rfl
  .rw[List.getElem?_append_right (by simp;omega),show(i+1)*3+j - [Value.int .i64 x.pile,.int .i64 x.lo,.int .i64 x.hi].length=i*3+j from by simp;omega];exact ih (by simpa using hi)
theorem qbF(l r:List jD):cells3 l++cells3 r=cells3 (l++r):=by unfold cells3;rw[List.flatMap_append]
end Go.Proofs
end
section
namespace Go.Proofs
open Go Go.RowKit Go.Maps
variable [Lo.St]
theorem qac{p i:Int}:∀(m:List Int)(l:List (Int×Int)),qg (l++m.map λq=>(q,i)) p=if m.contains p=true then some i else qg l p
 | [],l=>by simp
 |q::r,l=>by
  have e:l++(q::r).map (λq=>(q,i))=(l++ [(q,i)])++r.map λq=>(q,i):=by simp
  rw[e,qac r,uO]
  by_cases h:r.contains p=true
  .rw[if_pos h,if_pos (by rw[List.contains_cons,h];simp)]
  .rw[if_neg h]
   by_cases h2:q=p
   .rw[if_pos h2,if_pos (by rw[List.contains_cons,h2];simp)]
   .rw[if_neg h2,if_neg (λhh=>by
     rw[List.contains_cons,Bool.or_eq_true]at hh;rcases hh with hh|hh
     .exact h2 (eq_of_beq hh).symm
     .exact h hh)]
theorem qah{f:dW->List Int}{ss:List dW}{k:Nat}(h:k<ss.length):fP f ss (k+1)=fP f ss k++(f ss[k]).map λq=>(q,(k:Int)):=by
 rw[fP,List.getElem?_eq_getElem h]
theorem qcQ{b:dO}(h:(jr b.dJ.length b.dz.length b.steps [] []).1=0):∀k,k<=b.steps.length->Ju b k
 |0,_=> λj _ h=>absurd h (Nat.not_lt_zero _)
 |k+1,hk=>by
  have ih:=qcQ h k (by omega);refine Pg ih (by omega) ?_
  by_cases q:mq b k b.steps[k]=0
  .exact q
  .have e:=Pd (show k<b.steps.length by omega) q;rw[<-tK ih (by omega),xA,h]at e;exact absurd e.symm q
theorem qaN{np:Nat}{M:List Int}:∀{l U:List Int},U.Nodup->(oD np M l U).1=0->(U++l).Nodup
 | [],U,h,_=>by simpa using h
 |p::r,U,h,h2=>by
  unfold oD at h2
  by_cases q1:kH p 0 ((np:Int)-1)=false
  .rw[if_pos q1]at h2;cases h2
  rw[if_neg q1]at h2
  by_cases q2:M.contains p=false
  .rw[if_pos q2]at h2;cases h2
  rw[if_neg q2]at h2
  by_cases q3:U.contains p=true
  .rw[if_pos q3]at h2;cases h2
  rw[if_neg q3]at h2
  have hU:(U++ [p]).Nodup:=List.nodup_append.2 ⟨h,by simp, λa ha c hc=>by
   obtain rfl:=List.mem_singleton.1 hc;rintro rfl;exact q3 (by simpa using ha)⟩
  have :=qaN hU h2
  rwa [List.append_assoc]at this
theorem qaO{b:dO}(h:Ju b b.steps.length):∀k,k<=b.steps.length->(mM b k).Nodup
 |0,_=>by unfold mM;simp
 |k+1,hk=>by
  have ih:=qaO h k (by omega);have hf:=h k (by omega) (by omega);rw[Ll b (by omega)];refine qaN (np:=b.dz.length) (M:=gB b k) ih ?_
  unfold mq at hf
  by_cases q1:kH b.steps[k].hand 0 ((b.dJ.length:Int)-1)=false
  .rw[if_pos q1]at hf;cases hf
  rw[if_neg q1]at hf
  by_cases q2:(oD b.dz.length (gB b k) b.steps[k].ins (mM b k)).1=0
  .exact q2
  .rw[if_pos q2]at hf;exact absurd hf q2
end Go.Proofs
end
section
namespace Go.Proofs
open Go Go.RowKit Go.Maps
def qab(ms:List Int)(p:Int):Int:=ms.getD p.toNat 0
def qa1(ms:List Int)(l:List Int):Int:=(l.map (qab ms)).sum
theorem qc9(ms l r:List Int):qa1 ms (l++r)=qa1 ms l+qa1 ms r:=by simp[qa1]
theorem qaP{ms l:List Int}{k:Nat}(h:k<l.length):qa1 ms (l.take (k+1))=qa1 ms (l.take k)+qab ms l[k]:=by
 rw[List.take_succ_eq_append_getElem h,qc9];simp[qa1]
theorem qbw{ms:List Int}{p q v:Int}(hp:0<=p)(hq:0<=q)(h:p≠q):qab (ms.set p.toNat v) q=qab ms q:=by
 unfold qab;rw[List.getD_eq_getElem?_getD,List.getD_eq_getElem?_getD,List.getElem?_set_ne (by omega)]
theorem qca{ms:List Int}{p v:Int}(h0:0<=p)(h:p<ms.length):qab (ms.set p.toNat v) p=v:=by
 unfold qab;rw[List.getD_eq_getElem?_getD,List.getElem?_set_self (by omega)];rfl
theorem qcb{ms:List Int}{p v:Int}{l:List Int}(hp:0<=p)(hl:∀q∈l,0<=q)(h:p ∉ l):qa1 (ms.set p.toNat v) l=qa1 ms l:=by
 unfold qa1;congr 1;refine List.map_congr_left λq hq=>qbw hp (hl q hq) λe=>h (e ▸ hq)
def qb1(ms ms':List Int)(l:List Int):Prop:=∀q,0<=q->q ∉ l->qab ms' q=qab ms q
theorem qaF{ms ms' l r:List Int}(h:qb1 ms ms' l)(hr:∀q∈r,0<=q∧q ∉ l):qa1 ms' r=qa1 ms r:=by
 unfold qa1;congr 1;exact List.map_congr_left λq hq=>h q (hr q hq).1 (hr q hq).2
structure qdR(s:dW)(ms:List Int)(x l:Int):Prop where
 g0:s.g0<=x
 g1:x<=s.g1
 l0:s.l0<=l
 l1:l<=s.l1
 eq:qa1 ms s.ins+x=l+qa1 ms s.outs
section
variable [Lo.St]
theorem qcc{np:Nat}{M:List Int}:∀{l U:List Int},(oD np M l U).1=0->∀p∈l,p∈M
 | [],_,_=> λp hp=>by simp at hp
 |q::r,U,h=> λp hp=>by
  unfold oD at h
  by_cases h1:kH q 0 ((np:Int)-1)=false
  .rw[if_pos h1]at h;cases h
  .rw[if_neg h1]at h
   by_cases h2:M.contains q=false
   .rw[if_pos h2]at h;cases h
   .rw[if_neg h2]at h
    by_cases h3:U.contains q=true
    .rw[if_pos h3]at h;cases h
    .rw[if_neg h3]at h;rcases List.mem_cons.1 hp with rfl|hp
     .simpa using h2
     .exact qcc h p hp
theorem qbc{np:Nat}:∀{l M:List Int},(iX np l M).1=0->(∀p∈l,p ∉ M)∧l.Nodup∧(iX np l M).2=M++l
 | [],M,_=>⟨λp hp=>by simp at hp,List.nodup_nil,by simp[iX]⟩
 |q::r,M,h=>by
  unfold iX at h⊢
  by_cases h1:kH q 0 ((np:Int)-1)=false
  .rw[if_pos h1]at h;cases h
  .rw[if_neg h1]at h⊢
   by_cases h2:M.contains q=true
   .rw[if_pos h2]at h;cases h
   .rw[if_neg h2]at h⊢;obtain⟨i1,i2,i3⟩:=qbc h;have hq:q ∉ M:=by simpa using h2
    refine⟨λp hp=>?_,List.nodup_cons.2 ⟨λhx=>i1 q hx (by simp),i2⟩,by rw[i3];simp⟩;rcases List.mem_cons.1 hp with rfl|hp
    .exact hq
    .intro hx;exact i1 p hp (by simp[hx])
theorem qaQ{nh np:Nat}:∀{l:List dW}{M U:List Int},(jr nh np l M U).1=0->(∀s∈l,(∀p∈s.outs,p ∉ M)∧s.outs.Nodup∧∀p∈s.outs,p ∉ s.ins)∧l.Pairwise λs t=>∀p∈t.outs,p ∉ s.outs∧p ∉ s.ins
 | [],_,_,_=>⟨λs hs=>by simp at hs,List.Pairwise.nil⟩
 |s::r,M,U,h=>by
  unfold jr at h
  by_cases h1:kH s.hand 0 ((nh:Int)-1)=false
  .rw[if_pos h1]at h;cases h
  rw[if_neg h1]at h
  by_cases h2:(oD np M s.ins U).1≠0
  .rw[if_pos h2]at h;exact absurd h h2
  rw[if_neg h2]at h
  by_cases h3:(iX np s.outs M).1≠0
  .rw[if_pos h3]at h;exact absurd h h3
  rw[if_neg h3]at h
  by_cases h4:eT s.g0 s.g1 0 1000000=false
  .rw[if_pos h4]at h;cases h
  rw[if_neg h4]at h
  by_cases h5:eT s.l0 s.l1 0 1000000=false
  .rw[if_pos h5]at h;cases h
  rw[if_neg h5]at h;have h2:(oD np M s.ins U).1=0:=by simpa using h2
  have h3:(iX np s.outs M).1=0:=by simpa using h3
  obtain⟨a1,a2,a3⟩:=qbc h3;rw[a3]at h;obtain⟨b1,b2⟩:=qaQ h;have hin:=qcc h2;refine⟨λt ht=>?_,List.pairwise_cons.2 ⟨λt ht p hp=>?_,b2⟩⟩
  .rcases List.mem_cons.1 ht with rfl|ht
   .exact⟨a1,a2, λp hp hx=>a1 p hp (hin p hx)⟩
   .exact⟨λp hp hx=>(b1 t ht).1 p hp (by simp[hx]),(b1 t ht).2⟩
  .have :=(b1 t ht).1 p hp;simp only[List.mem_append,not_or]at this;exact⟨this.2, λhx=>this.1 (hin p hx)⟩
structure qcR(b:dO)(k:Nat)(s:dW):Prop where
 at_:b.steps[k]?=some s
 nd:s.outs.Nodup
 own:∀p∈s.outs,p ∉ s.ins
 old:∀j t,j<k->b.steps[j]?=some t->∀p∈s.outs,p ∉ t.outs∧p ∉ t.ins
 ins:∀p∈s.ins,0<=p∧p<=(b.dz.length:Int)-1
 outs:∀p∈s.outs,0<=p∧p<=(b.dz.length:Int)-1
 hg:0<=s.g0∧s.g0<=s.g1∧s.g1<=1000000
 hl:0<=s.l0∧s.l0<=s.l1∧s.l1<=1000000
theorem steady{b:dO}(hc:fG b=0){k:Nat}{s:dW}(h:b.steps[k]?=some s):qcR b k s:=by
 have h0:=(CX (EP hc).2.2.1).2.1;obtain⟨h1,h2⟩:=qaQ h0;obtain⟨-,i1,i2,i3,i4⟩:=vE h0 s (List.mem_of_getElem? h);obtain⟨-,c2,c3⟩:=h1 s (List.mem_of_getElem? h);refine⟨h,c2,c3, λj t hj ht p hp=>?_,i1,i2,?_,?_⟩
 .obtain⟨hk,rfl⟩:=List.getElem?_eq_some_iff.1 h;obtain⟨hj',rfl⟩:=List.getElem?_eq_some_iff.1 ht;exact List.pairwise_iff_getElem.1 h2 j k hj' hk hj p hp
 .simp only[eT,Bool.and_eq_true,decide_eq_true_eq]at i3;omega
 .simp only[eT,Bool.and_eq_true,decide_eq_true_eq]at i4;omega
structure Done(b:dO)(k:Nat)(ms ls gs:List Int):Prop where
 lm:ms.length=b.dz.length
 ll:ls.length=k
 lg:gs.length=k
 rg:∀x∈ms,0<=x∧x<=1000000
 bal:∀j s,j<k->b.steps[j]?=some s->qdR s ms (gs.getD j 0) (ls.getD j 0)
theorem Done.start(b:dO):Done b 0 (List.replicate b.dz.length 0) [] []:=
 ⟨by simp,rfl,rfl, λx hx=>by obtain rfl:=(List.mem_replicate.1 hx).2;omega, λj s h=>by omega⟩
theorem Done.step{b:dO}{k:Nat}{ms ms' ls gs:List Int}{s:dW}{x l:Int}(hc:fG b=0)(h:Done b k ms ls gs)(hs:b.steps[k]?=some s)(hb:qb1 ms ms' s.outs)(hlen:ms'.length=ms.length)(hr:∀x∈ms',0<=x∧x<=1000000)(qec:qdR s ms' x l):Done b (k+1) ms' (ls++ [l]) (gs++ [x]):=by
 have S:=steady hc hs;refine⟨hlen.trans h.lm,by simp[h.ll],by simp[h.lg],hr, λj t hj ht=>?_⟩
 by_cases e:j=k
 .subst e;rw[hs]at ht;cases ht;have e1:(ls++ [l]).getD j 0=l:=by rw[List.getD_eq_getElem?_getD,List.getElem?_append_right (by rw[h.ll];omega),h.ll];simp
  have e2:(gs++ [x]).getD j 0=x:=by rw[List.getD_eq_getElem?_getD,List.getElem?_append_right (by rw[h.lg];omega),h.lg];simp
  rw[e1,e2];exact qec
 .have hj':j<k:=by omega
  have e1:(ls++ [l]).getD j 0=ls.getD j 0:=by rw[List.getD_eq_getElem?_getD,List.getD_eq_getElem?_getD,List.getElem?_append_left (by rw[h.ll];omega)]
  have e2:(gs++ [x]).getD j 0=gs.getD j 0:=by rw[List.getD_eq_getElem?_getD,List.getD_eq_getElem?_getD,List.getElem?_append_left (by rw[h.lg];omega)]
  rw[e1,e2];obtain⟨a1,a2,a3,a4,a5⟩:=h.bal j t hj' ht;have T:=steady hc ht;have f1:qa1 ms' t.ins=qa1 ms t.ins:=qaF hb λq hq=>⟨(T.ins q hq).1, λhx=>(S.old j t hj' ht q hx).2 hq⟩
  have f2:qa1 ms' t.outs=qa1 ms t.outs:=qaF hb λq hq=>⟨(T.outs q hq).1, λhx=>(S.old j t hj' ht q hx).1 hq⟩
  exact⟨a1,a2,a3,a4,by rw[f1,f2];exact a5⟩
structure qat(ms ms':List Int)(s:dW)(N:Int)(j:Nat)(r:Int):Prop where
 len:ms'.length=ms.length
 rg:∀x∈ms',0<=x∧x<=1000000
 but:qb1 ms ms' s.outs
 r0:0<=r
 eq:r+qa1 ms' (s.outs.take j)=N
 fin:j=s.outs.length->r=0
theorem qat.start{ms:List Int}{s:dW}{N:Int}(hr:∀x∈ms,0<=x∧x<=1000000)(h0:0<=N)(h:s.outs.length=0->N=0):qat ms ms s N 0 N:=
 ⟨rfl,hr, λ_ _ _=>rfl,h0,by simp[qa1], λe=>h e.symm⟩
theorem qat.step{b:dO}{k:Nat}{ms ms':List Int}{s:dW}{N r m p:Int}{j:Nat}(S:qcR b k s)(hl:ms.length=b.dz.length)(h:qat ms ms' s N j r)(hj:j<s.outs.length)(hp:s.outs[j]=p)(h0:0<=m)(h1:m<=r)(h2:m<=1000000)(h3:j+1=s.outs.length->m=r):qat ms (ms'.set p.toNat m) s N (j+1) (r-m):=by
 subst hp;have hp:=S.outs _ (List.getElem_mem hj);obtain⟨a1,a2,a3,a4,a5,a6⟩:=h;refine⟨by simp[a1], λx hx=>?_, λq hq hn=>?_,by omega,?_, λe=>by have :=h3 e;omega⟩
 .rcases List.mem_or_eq_of_mem_set hx with hx|rfl
  .exact a2 x hx
  .omega
 .rw[qbw hp.1 hq λe=>hn (e ▸ List.getElem_mem hj)];exact a3 q hq hn
 .rw[qaP hj,qca hp.1 (by rw[a1,hl];omega),qcb hp.1 (λq hq=>(S.outs q (List.mem_of_mem_take hq)).1) λhx=>?_]
  .omega
  .have hnd:=S.nd;rw[<-List.take_append_drop j s.outs,List.drop_eq_getElem_cons hj]at hnd;exact(List.nodup_append.1 hnd).2.2 _ hx _ List.mem_cons_self rfl
theorem qat.done{b:dO}{k:Nat}{ms ms' ls gs:List Int}{s:dW}{x l r N:Int}{j:Nat}(hc:fG b=0)(hd:Done b k ms ls gs)(hs:b.steps[k]?=some s)(h:qat ms ms' s N j r)(hN:N=x+qa1 ms s.ins-l)(hj:j=s.outs.length)(hx:s.g0<=x∧x<=s.g1)(hl:s.l0<=l∧l<=s.l1):Done b (k+1) ms' (ls++ [l]) (gs++ [x]):=by
 have S:=steady hc hs;obtain⟨a1,a2,a3,a4,a5,a6⟩:=h;refine hd.step hc hs a3 a1 a2 ⟨hx.1,hx.2,hl.1,hl.2,?_⟩;rw[a6 hj,hj,List.take_length]at a5;rw[qaF a3 λq hq=>⟨(S.ins q hq).1, λhx=>S.own q hx hq⟩];omega
end
end Go.Proofs
end
section
namespace Go.Proofs
open Go Go.RowKit Go.Maps
variable [Lo.St]
def qee(w:World)(b:dO)(e:Ending)(w':World):Prop:=
 Below w.heap.size w w'∧(e=.returned (.tuple #[.slice none 0 0,.slice none 0 0,.bool false])∨
  ∃ms ls gs ψH cm ωb cl,e=.returned (.tuple #[.slice ψH b.dz.length cm,.slice ωb b.steps.length cl,.bool true])∧Done b b.steps.length ms ls gs∧xJ w' w'.heap.size ψH ms∧xJ w' w'.heap.size ωb ls)
theorem qb2{ms:List Int}(h:∀x∈ms,0<=x∧x<=1000000)(p:Int):0<=qab ms p∧qab ms p<=1000000:=by
 unfold qab;rw[List.getD_eq_getElem?_getD];cases e:ms[p.toNat]? with
 |none=>exact⟨by simp,by simp⟩
 |some x=>exact h x (List.mem_of_getElem? e)
theorem qb3{ms:List Int}(h:∀x∈ms,0<=x∧x<=1000000):∀l:List Int,0<=qa1 ms l∧qa1 ms l<=1000000*l.length
 | []=>by simp[qa1]
 |p::l=>by
  have h1:=qb3 h l;have h2:=qb2 h p;have e:qa1 ms (p::l)=qab ms p+qa1 ms l:=by simp[qa1]
  rw[e,List.length_cons];omega
theorem qbx{ms:List Int}{q:Nat}(h:q<ms.length):qab ms (q:Int)=ms[q]'h:=by
 unfold qab;rw[List.getD_eq_getElem?_getD,Int.toNat_natCast,List.getElem?_eq_getElem h];rfl
theorem qby{a c:Int}(h:a<=c)(z:Int):a<=a+z%(c-a+1)∧a+z%(c-a+1)<=c:=by
 have h1:=Int.emod_nonneg z (show c-a+1≠0 by omega);have h2:=Int.emod_lt_of_pos z (show 0<c-a+1 by omega);omega
theorem Lo.qbj{w:World}{B:Nat}{A:Option Addr}{l:List Int}{c:Nat}{k a b:Int}(h:RdU w B A l)(hu:U16 l)(hB:B<=w.heap.size)(hab:0<=a∧a<=b∧b<=100000000)(hk:0<=k∧k<=10000):
 Calls Lo.prog 24 #[.agg #[.int .i64 a,.int .i64 b],.slice A l.length c,.int .i64 k] w λe w'=>∃x,e=.returned (.int .i64 x)∧a<=x∧x<=b∧Below w.heap.size w w':=by
 have hp:=Lo.qd2 (c:=c) (k:=k.toNat) h hu hB hab (by omega);rw[show((k.toNat:Nat):Int)=k by omega]at hp;refine hp.mono ?_
 rintro e w'⟨rfl,hb⟩;exact⟨_,rfl,(qby hab.2.1 _).1,(qby hab.2.1 _).2,hb⟩
theorem Lo.qbk(a b:Int)(w:World):Calls Lo.prog 20 #[.int .i64 a,.int .i64 b] w λe w'=>e=.returned (.agg #[.int .i64 a,.int .i64 b])∧Below w.heap.size w w':=by
 obtain⟨U,U2,U3,U4,U5,U6⟩:=Lo.facts;go_enter Lo.get Tryz.func20,Tryz.ntmps20;go_wp2;exact bodyPost_ret (v:=.agg #[.int .i64 a,.int .i64 b]) (by simp[results,Tryz.results10,go_sem,U,U2,U3,U4,U5,U6]) rfl ⟨rfl,(Below.refl _ _).alloc (Nat.le_refl _) _⟩
theorem qcS{a:Int}:∀u∈ [Value.int .i64 a],u.oneCell'=true:= λu hu=>by
 simp at hu;subst hu;rfl
def qbl(s:dW)(ia:Option Addr)(ξ2:Nat)(oa:Option Addr)(oc:Nat):Obj:=.cells #[.int .i64 s.hand,.slice ia s.ins.length ξ2,.slice oa s.outs.length oc,.int .i64 s.g0,.int .i64 s.g1,.int .i64 s.l0,.int .i64 s.l1] 50
theorem qaG{W:World}{x ξ2 oc:Nat}{s:dW}{ia oa:Option Addr}(h:W.heap[x]?=some (qbl s ia ξ2 oa oc)):W.cell? ⟨x,0,none⟩=some (.int .i64 s.hand)∧W.cell? ⟨x,1,none⟩=some (.slice ia s.ins.length ξ2)∧W.cell? ⟨x,2,none⟩=some (.slice oa s.outs.length oc)∧W.cell? ⟨x,3,none⟩=some (.int .i64 s.g0)∧W.cell? ⟨x,4,none⟩=some (.int .i64 s.g1)∧W.cell? ⟨x,5,none⟩=some (.int .i64 s.l0)∧W.cell? ⟨x,6,none⟩=some (.int .i64 s.l1):=
 ⟨cell_of h 0,cell_of h 1,cell_of h 2,cell_of h 3,cell_of h 4,cell_of h 5,cell_of h 6⟩
theorem Lo.qcd{w:World}{B:Nat}{b:dO}{v:gJ}{x:Value}{A:Option Addr}{pk:List Int}{cp:Nat}(hx:x=dY b v)(hb:fC w B b v)(hB:B<=w.heap.size)(hs:b.small)(hc:fG b=0)(hp:RdU w B A pk)(hu:U16 pk):
 Calls Lo.prog 7 #[x,.slice A pk.length cp] w (qee w b):=by
 obtain⟨U,U2,U3,U4,U5,U6⟩:=Lo.facts;have C:=Lo.call Tryz.func24;have C2:=Lo.call Tryz.func20;subst hx;have hg:=lM hs hc;have hn8:=hg.n8;have ag1:=hg.p12;obtain⟨i0,hi,hz0,hz1,hz2⟩:=info_parts Lo.info3;have M:=Lo.run_make b.dz.length (by omega);obtain⟨X,hX,sX,bX,hA,hC⟩:=bx9 hb hB;have hP:∀W,Below X.heap.size X W->RdU W B A pk:= λW hW=>hp.keep λd o h=>dH (bX.trans (hW.mono bX.size)) d o (by omega)
 have HC:=Lib.hid hC;have HA:=Lib.hid hA;have HP:=Lib.hid (And.intro hP hu);have HX:=Lib.hid (And.intro hX bX);have HK:=Lib.hid (And.intro hc hs);clear hX bX hA hC hb hc hp hu hP hg;obtain⟨f0,f1,f2,f3⟩:=al8 (HC.out X (Below.refl _ _));show Calls Lo.prog 7 #[Value.agg (lN b v),_] w _;unfold lN;go_enter Lo.get Tryz.func7,Tryz.ntmps7;go_wp2;have hy:=HX.out.1;unfold lN at hy;rw[hy];clear hy;go_wp2
 go_loopw [8,9] (λlv i wr=>∃(k:Nat)(ms ls gs:List Int),k<=b.steps.length∧i=.int .i64 (k:Int)∧Done b k ms ls gs∧wr.heap[w.heap.size+1]?=some (LI ms)∧wr.ownsRow (w.heap.size+2) 3 1 lv k (ls.map λx=>.int .i64 x)∧Below X.heap.size X wr∧w.heap.size+2<=wr.heap.size) (λ_ i _=>b.steps.length-(intOf i).toNat)
 case atStart=>exact⟨0,_,_,_,Nat.zero_le _,rfl,Done.start b,by rw[<-sX];exact World.alloc_heap_new _ _,World.ownsRow_nil _ _ _ _,(Below.refl _ _).alloc (Nat.le_refl _) _,by rw[World.size_alloc,sX];exact Nat.le_refl _⟩
 case round=>
  obtain⟨θN,hwo⟩:∃θN,θN=wr:=⟨_,rfl⟩;subst hwo;obtain⟨k,ms,ls,gs,hk,rfl,hdn,hms,hls,hbw,hsz⟩:=hrel;obtain⟨f0,f1,f2,f3⟩:=al8 (HC.out θN hbw);have HD:=Lib.hid (And.intro hdn (And.intro hms (And.intro hls hbw)));clear hdn hms hls hbw
  by_cases hlt:k<b.steps.length
  .have hlt':(k:Int)<(b.steps.length:Int):=by omega
   obtain⟨bb,off,ex,hbb,hcc⟩:=(HA.out θN HD.out.2.2.2).steps (by omega);obtain⟨r0,r1,r2,r3,r4,r5,r6⟩:=sZ hcc hlt;have hse:b.steps[k]?=some b.steps[k]:=List.getElem?_eq_getElem hlt
   obtain⟨s,hsk⟩:∃s,b.steps[k]=s:=⟨_,rfl⟩;rw[hsk]at r0 r1 r2 r3 r4 r5 r6 hse;rw[ex]at f2;have S:=steady HK.out.1 hse;have qel:=HK.out.2.ins s (List.mem_of_getElem? hse);have qem:=HK.out.2.outs s (List.mem_of_getElem? hse);have hbi:=(HA.out θN HD.out.2.2.2).ins k s hse;have Sy:=(HA.out θN HD.out.2.2.2).outs k s hse;obtain⟨hg0,hg1,hg2⟩:=S.hg;obtain⟨hl0,hl1,hl2⟩:=S.hl;have HS:=Lib.hid (And.intro S (And.intro hse (And.intro hbi Sy)));generalize(v.sv k).a1=ia at r1 hbi HS;generalize(v.sv k).c1=ξ2 at r1;generalize(v.sv k).a2=oa at r2 Sy HS;generalize(v.sv k).c2=oc at r2;clear ex hcc hsk S hse hbi Sy;have iw1:IntKind.i64.wrap (2*(k:Int))=2*(k:Int):=by rw[IntKind.wrap_i64];omega
   go_wp2;obtain⟨W1,hW1⟩:∃W1,θN.alloc (.cells #[.int .i64 s.hand,.slice ia s.ins.length ξ2,.slice oa s.outs.length oc,.int .i64 s.g0,.int .i64 s.g1,.int .i64 s.l0,.int .i64 s.l1] 50)=W1:=⟨_,rfl⟩;have t1:W1.heap[θN.heap.size]?=some (qbl s ia ξ2 oa oc):=hW1 ▸ World.alloc_heap_new _ _
   have b1:Below θN.heap.size θN W1:=hW1 ▸ (Below.refl _ _).alloc (Nat.le_refl _) _;have s1:W1.heap.size=θN.heap.size+1:=by rw[<-hW1];simp
   rw[hW1];clear hW1;have bX1:Below X.heap.size X W1:=HD.out.2.2.2.trans (b1.mono (by omega));refine(Lo.qbj (HP.out.1 W1 bX1) HP.out.2 (by omega) ⟨hg0,hg1,by omega⟩ ⟨by omega,by omega⟩).mono ?_
   rintro e W2⟨px,rfl,px1,px2,b2⟩;have t2:=(b2.block _ (by omega)).trans t1;have b02:Below θN.heap.size θN W2:=b1.trans (b2.mono (by omega));have s2:θN.heap.size+1<=W2.heap.size:=by have :=b2.size;omega
   clear t1 b1 s1 bX1 b2 f0 f1 f2 f3 r0 r1 r2 r3 r4 r5 r6;have m2:W2.heap[w.heap.size+1]?=some (LI ms):=(b02.block _ (by omega)).trans HD.out.2.1
   obtain⟨x0,x1,x2,x3,x4,x5,x6⟩:=qaG t2;have H2:=Lib.hid (And.intro t2 (And.intro b02 m2));clear t2 b02 m2;go_wp2;have hrg:=HD.out.1.rg;have hlm:=HD.out.1.lm
   go_loopw [11,12] (λnv κO wq=>∃j:Nat,j<=s.ins.length∧κO=.int .i64 (j:Int)∧nv=.int .i64 (px+qa1 ms (s.ins.take j))∧W2=wq) (λ_ κO _=>s.ins.length-(intOf κO).toNat)
   case atStart=>exact⟨0,Nat.zero_le _,rfl,by simp[qa1],rfl⟩
   case round=>
    obtain⟨j,hj,rfl,rfl,rfl⟩:=hrel;have hsb:=qb3 hrg (s.ins.take j);rw[List.length_take]at hsb
    by_cases hlj:j<s.ins.length
    .have qef:(j:Int)<(s.ins.length:Int):=by omega
     have hst:=qaP (ms:=ms) hlj;obtain⟨bi,oi,hie,hbi,hci⟩:=(HS.out.2.2.1.keep λd o h=>dH H2.out.2.1 d o (by omega)) (show 0<s.ins.length by omega);have hpi:=PT hci hlj;have hpr:=HS.out.1.ins _ (List.getElem_mem hlj);obtain⟨p,hpe⟩:∃p,s.ins[j]'hlj=p:=⟨_,rfl⟩;rw[hpe]at hst hpr;replace hpi:W2.cell? ⟨bi,oi+j,none⟩=some (.int .i64 p):=by rw[<-hpe];exact hpi
     obtain⟨q,rfl⟩:∃q:Nat,p=(q:Int):=⟨p.toNat,by omega⟩;have hql:q<ms.length:=by omega
     have hqp:(q:Int)<(b.dz.length:Int):=by omega
     have hmq:=y8 H2.out.2.2 hql;rw[<-qbx hql]at hmq;have hmr:=qb2 hrg (q:Int);obtain⟨y,hy⟩:∃y,qab ms (q:Int)=y:=⟨_,rfl⟩;obtain⟨sm,hsm⟩:∃sm,qa1 ms (s.ins.take j)=sm:=⟨_,rfl⟩;rw[hy]at hmq hmr hst;rw[hsm]at hst hsb;rw[hsm];have iw:IntKind.i64.wrap (px+sm+y)=px+(sm+y):=by rw[IntKind.wrap_i64];omega
     subst hie;have HT:=Lib.hid hst;clear hci hbi hpe hy hsm hst;go_wp2;go_roundw
     case rel=>exact⟨j+1,hlj,by go_num,by rw[HT.out],by simp⟩
     case measure=>simp[intOf];omega
    .obtain rfl:j=s.ins.length:=by omega
     rw[List.take_length]at hsb⊢;obtain⟨sm,hsm⟩:∃sm,qa1 ms s.ins=sm:=⟨_,rfl⟩;rw[hsm]at hsb⊢;have HSM:=Lib.hid hsm;clear hsm;obtain⟨n,hn⟩:∃n,px+sm=n:=⟨_,rfl⟩;rw[hn];have hnr:0<=n∧n<=65000000:=by omega
     have b2w:Below w.heap.size w W2:=HX.out.2.trans ((HD.out.2.2.2.mono (by omega)).trans (H2.out.2.1.mono (by omega)))
     by_cases hl:n<s.l0
     .go_wp2
      go_ret3
      exact⟨b2w,Or.inl rfl⟩
     have hl':¬s.l0> n:=by omega
     obtain⟨mn,hmn⟩:∃mn,(if s.l1<n then s.l1 else n)=mn:=⟨_,rfl⟩;have qeg:s.l0<=mn∧mn<=n∧mn<=s.l1:=by rw[<-hmn];split<;>omega
     have iw2:IntKind.i64.wrap (2*(k:Int)+1)=2*(k:Int)+1:=by rw[IntKind.wrap_i64];omega
     go_wp2;refine(Lo.qbk _ _ _).mono ?_
     rintro e W3⟨rfl,b3⟩;have s3:=b3.size;go_wp2;refine(Lo.qbj (HP.out.1 W3 ((HD.out.2.2.2.trans (H2.out.2.1.mono (by omega))).trans (b3.mono (by omega)))) HP.out.2 (by omega) ⟨hl0,by omega,by omega⟩ ⟨by omega,by omega⟩).mono ?_
     rintro e W4⟨x,rfl,hx1,hx2,b4⟩;have hx3:s.l0<=x∧x<=s.l1∧x<=n:=by omega
     clear hx1 hx2;have s4:=b4.size;have b34:=b3.trans (b4.mono s3);have b24:Below θN.heap.size θN W4:=H2.out.2.1.trans (b34.mono (by omega));have t4:=(b34.block _ (by omega)).trans H2.out.1;have m4:=(b34.block _ (by omega)).trans H2.out.2.2;clear x0 x1 x2 x3 x4 x5 x6 b3 b4 b34;obtain⟨x0,x1,x2,x3,x4,x5,x6⟩:=qaG t4;have o4:=ownsRow.below HD.out.2.2.1 b24;have bw4:Below w.heap.size w W4:=HX.out.2.trans ((HD.out.2.2.2.mono (by omega)).trans (b24.mono (by omega)));have H4:=Lib.hid (And.intro t4 (And.intro b24 (And.intro m4 o4)));clear t4 b24 m4 o4;have qen:¬x> s.l1:=by omega
     by_cases ho:s.outs.length=0
     .have ho':((s.outs.length:Nat):Int)=0:=by omega
      by_cases hbig:s.l1<n
      .go_wp2
       go_ret3
       exact⟨bw4,Or.inl rfl⟩
      go_wp2_with(first|(at_builtin;go_loud (refine wpList_append_own _ rfl _ _ 33 rfl (w.heap.size+2) 3 i0 (.int .i64 0) 1 8 Lo.I1 hi hz0 hz1 hz2 rfl (by decide) _ k (ls.map λx=>.int .i64 x) rfl (H4.out.2.2.2.alloc _) ⟨W4.heap.size,0,none⟩ 1 1 [.int .i64 n] rfl rfl (World.news_of_block (t:=3) (fr:=(0,0)) (cs:= #[.int .i64 n]) (World.alloc_heap_new _ _)) qcS (by unfold maxLen;omega) (by omega) (by rw[World.size_alloc];omega) ?_))|go_in)
      intro v5 W5 o5 g5 _;have hlo:=HD.out.2.2.1.lt;have b5:=Below.grown ((HD.out.2.2.2.trans (H4.out.2.1.mono (by omega))).alloc (by omega) _) g5 (by rw[World.size_alloc];omega) (λj hj=>by have :=(H4.out.2.2.2.lt j hj).1;omega);have t5:W5.heap[θN.heap.size]?=some (qbl s ia ξ2 oa oc):=(g5.block _ (by rw[World.size_alloc];omega) λe=>by have :=(hlo _ e.symm).2;omega).trans ((Below.heap_alloc _ _ _ (by omega)).trans H4.out.1)
      have m5:W5.heap[w.heap.size+1]?=some (LI ms):=(g5.block _ (by rw[World.size_alloc];omega) λe=>by have :=(hlo _ e.symm).1;omega).trans ((Below.heap_alloc _ _ _ (by omega)).trans H4.out.2.2.1)
      have s5:=g5.size;rw[World.size_alloc]at s5;rw[show(ls.map λx=>Value.int .i64 x)++ [.int .i64 n]=(ls++ [n]).map λx=>.int .i64 x by simp]at o5;have H5:=Lib.hid (And.intro b5 (And.intro t5 (And.intro m5 o5)));clear b5 t5 m5 o5 g5 x0 x1 x2 x3 x4 x5 x6 hlo;have iw3:IntKind.i64.wrap (n-n)=n-n:=by rw[IntKind.wrap_i64];omega
      go_wp2
      go_loopw [11,14] (λnv κO wq=>∃(j:Nat)(r:Int)(ms':List Int),j<=s.outs.length∧κO=.int .i64 (j:Int)∧nv=.int .i64 r∧qat ms ms' s (n-n) j r∧wq.heap[w.heap.size+1]?=some (LI ms')∧wq.heap[θN.heap.size]?=some (qbl s ia ξ2 oa oc)∧wq.ownsRow (w.heap.size+2) 3 1 v5 (k+1) ((ls++ [n]).map λx=>.int .i64 x)∧Below X.heap.size X wq∧W5.heap.size<=wq.heap.size) (λ_ κO _=>s.outs.length-(intOf κO).toNat)
      case atStart=>exact⟨0,_,ms,Nat.zero_le _,rfl,rfl,(by rw[Int.sub_self];exact qat.start hrg (Int.le_refl _) λ_=>rfl),H5.out.2.2.1,H5.out.2.1,H5.out.2.2.2,H5.out.1,Nat.le_refl _⟩
      case round=>
       obtain⟨j,r,ms',hj,rfl,rfl,hout,γc,θa,φq,κn,sq⟩:=hrel;obtain rfl:j=s.outs.length:=by omega
       have x2:wr.cell? ⟨θN.heap.size,2,none⟩=some (.slice oa s.outs.length oc):=cell_of θa 2;have HQ:=Lib.hid (And.intro γc (And.intro θa (And.intro φq (And.intro κn hout))));clear γc θa φq κn hout;go_wp2;go_roundw
       case rel=>exact⟨k+1,ms',ls++ [n],gs++ [px],hlt,by go_num,HQ.out.2.2.2.2.done HK.out.1 HD.out.1 HS.out.2.1 (by rw[HSM.out];omega) rfl ⟨px1,px2⟩ (by omega),HQ.out.1,HQ.out.2.2.1,HQ.out.2.2.2.1,by omega⟩
       case measure=>simp[intOf];omega
     .have ho':¬((s.outs.length:Nat):Int)=0:=by omega
      go_wp2_with(first|(at_builtin;go_loud (refine wpList_append_own _ rfl _ _ 33 rfl (w.heap.size+2) 3 i0 (.int .i64 0) 1 8 Lo.I1 hi hz0 hz1 hz2 rfl (by decide) _ k (ls.map λx=>.int .i64 x) rfl (H4.out.2.2.2.alloc _) ⟨W4.heap.size,0,none⟩ 1 1 [.int .i64 x] rfl rfl (World.news_of_block (t:=3) (fr:=(0,0)) (cs:= #[.int .i64 x]) (World.alloc_heap_new _ _)) qcS (by unfold maxLen;omega) (by omega) (by rw[World.size_alloc];omega) ?_))|go_in)
      intro v5 W5 o5 g5 _;have hlo:=HD.out.2.2.1.lt;have b5:=Below.grown ((HD.out.2.2.2.trans (H4.out.2.1.mono (by omega))).alloc (by omega) _) g5 (by rw[World.size_alloc];omega) (λj hj=>by have :=(H4.out.2.2.2.lt j hj).1;omega);have t5:W5.heap[θN.heap.size]?=some (qbl s ia ξ2 oa oc):=(g5.block _ (by rw[World.size_alloc];omega) λe=>by have :=(hlo _ e.symm).2;omega).trans ((Below.heap_alloc _ _ _ (by omega)).trans H4.out.1)
      have m5:W5.heap[w.heap.size+1]?=some (LI ms):=(g5.block _ (by rw[World.size_alloc];omega) λe=>by have :=(hlo _ e.symm).1;omega).trans ((Below.heap_alloc _ _ _ (by omega)).trans H4.out.2.2.1)
      have s5:=g5.size;rw[World.size_alloc]at s5;rw[show(ls.map λx=>Value.int .i64 x)++ [.int .i64 x]=(ls++ [x]).map λx=>.int .i64 x by simp]at o5;have H5:=Lib.hid (And.intro b5 (And.intro t5 (And.intro m5 o5)));clear b5 t5 m5 o5 g5 x0 x1 x2 x3 x4 x5 x6 hlo;have iw3:IntKind.i64.wrap (n-x)=n-x:=by rw[IntKind.wrap_i64];omega
      go_wp2
      go_loopw [11,14] (λnv κO wq=>∃(j:Nat)(r:Int)(ms':List Int),j<=s.outs.length∧κO=.int .i64 (j:Int)∧nv=.int .i64 r∧qat ms ms' s (n-x) j r∧wq.heap[w.heap.size+1]?=some (LI ms')∧wq.heap[θN.heap.size]?=some (qbl s ia ξ2 oa oc)∧wq.ownsRow (w.heap.size+2) 3 1 v5 (k+1) ((ls++ [x]).map λx=>.int .i64 x)∧Below X.heap.size X wq∧W5.heap.size<=wq.heap.size) (λ_ κO _=>s.outs.length-(intOf κO).toNat)
      case atStart=>exact⟨0,_,ms,Nat.zero_le _,rfl,rfl,qat.start hrg (by omega) (λh=>absurd h ho),H5.out.2.2.1,H5.out.2.1,H5.out.2.2.2,H5.out.1,Nat.le_refl _⟩
      case round=>
       obtain⟨j,r,ms',hj,rfl,rfl,hout,γc,θa,φq,κn,sq⟩:=hrel
       by_cases hlj:j<s.outs.length
       .have qef:(j:Int)<(s.outs.length:Int):=by omega
        obtain⟨bo,ψm,hoe,Sy,hco⟩:=(HS.out.2.2.2.keep λd o h=>(dH κn d o (by omega)).trans (dH HD.out.2.2.2 d o (by omega)).symm) (show 0<s.outs.length by omega);have hpo:=PT hco hlj;have hpr:=HS.out.1.outs _ (List.getElem_mem hlj);obtain⟨p,hpe⟩:∃p,s.outs[j]'hlj=p:=⟨_,rfl⟩;rw[hpe]at hpr;replace hpo:wr.cell? ⟨bo,ψm+j,none⟩=some (.int .i64 p):=by rw[<-hpe];exact hpo
        obtain⟨q,rfl⟩:∃q:Nat,p=(q:Int):=⟨p.toNat,by omega⟩;have hql:q<ms'.length:=by rw[hout.len];omega
        have hqp:(q:Int)<(b.dz.length:Int):=by omega
        subst hoe;have x2:wr.cell? ⟨θN.heap.size,2,none⟩=some (.slice (some ⟨bo,ψm,none⟩) s.outs.length oc):=cell_of θa 2;have hr0:=hout.r0;have hrs:=(qb3 hout.rg (s.outs.take j)).1;have hre:=hout.eq
        have key:∀(Y:World)(m:Int),Below wr.heap.size wr Y->0<=m->m<=r->m<=1000000->(j+1=s.outs.length->m=r)->qat ms (ms'.set q m) s (n-x) (j+1) (r-m)∧(Y.setCell ⟨w.heap.size+1,q,none⟩ (.int .i64 m)).heap[w.heap.size+1]?=some (LI (ms'.set q m))∧(Y.setCell ⟨w.heap.size+1,q,none⟩ (.int .i64 m)).heap[θN.heap.size]?=some (qbl s ia ξ2 (some ⟨bo,ψm,none⟩) oc)∧(Y.setCell ⟨w.heap.size+1,q,none⟩ (.int .i64 m)).ownsRow (w.heap.size+2) 3 1 v5 (k+1) ((ls++ [x]).map λx=>.int .i64 x)∧Below X.heap.size X (Y.setCell ⟨w.heap.size+1,q,none⟩ (.int .i64 m))∧W5.heap.size<=(Y.setCell ⟨w.heap.size+1,q,none⟩ (.int .i64 m)).heap.size:=by
         intro Y m hY h0 h1 h2 h3;have sY:=hY.size;have bY:Below X.heap.size X Y:=κn.trans (hY.mono κn.size);refine⟨?_,Lg ((hY.block _ (by omega)).trans γc) q m,(Below.heap_setCell _ _ _ _ (show θN.heap.size≠w.heap.size+1 by omega)).trans ((hY.block _ (by omega)).trans θa),(ownsRow.below φq hY).kept (row:=some (w.heap.size+1)) ⟨rfl,rfl,rfl,by simp[World.setCell], λi _ hne=>Below.heap_setCell _ _ _ _ λe=>hne (by rw[e])⟩ (Or.inr λe=>by have :=(φq.lt _ e).1;omega),Below.setCell bY (show X.heap.size<=w.heap.size+1 by omega) _,by simp only[World.setCell,Array.size_modify];omega⟩;exact qat.step HS.out.1 hlm hout hlj hpe h0 h1 h2 h3
        have mC:=y8 γc hql;have KEY:=Lib.hid key;have HQ:=Lib.hid (And.intro γc (And.intro θa (And.intro φq (And.intro κn hout))));clear hco key γc θa φq κn hout hpe;have iw4:IntKind.i64.wrap ((s.outs.length:Int)-1)=(s.outs.length:Int)-1:=by rw[IntKind.wrap_i64];omega
        have iw5:IntKind.i64.wrap (3*(k:Int))=3*(k:Int):=by rw[IntKind.wrap_i64];omega
        have iw6:IntKind.i64.wrap (20+3*(k:Int))=20+3*(k:Int):=by rw[IntKind.wrap_i64];omega
        have iw7:IntKind.i64.wrap (20+3*(k:Int)+(j:Int))=20+3*(k:Int)+(j:Int):=by rw[IntKind.wrap_i64];omega
        by_cases hlast:j+1<s.outs.length
        .have d1:(j:Int)<(s.outs.length:Int)-1:=by omega
         go_wp2;refine(Lo.qbk _ _ _).mono ?_
         rintro e Y1⟨rfl,y1⟩;have z1:=y1.size;go_wp2;refine(Lo.qbj (HP.out.1 Y1 (HQ.out.2.2.2.1.trans (y1.mono HQ.out.2.2.2.1.size))) HP.out.2 (by omega) ⟨Int.le_refl _,hr0,by omega⟩ ⟨by omega,by omega⟩).mono ?_
         rintro e μt⟨m,rfl,m1,m2,y2⟩;have y12:=y1.trans (y2.mono z1);have z2:=y2.size;have f6:=E5 ((y12.block _ (by omega)).trans HQ.out.1) q;have x2b:=(dH y12 _ _ (show θN.heap.size<_ by omega)).trans x2;have hpb:=(dH y12 _ _ (show bo<_ by omega)).trans hpo;have mCb:=(dH y12 _ _ (show w.heap.size+1<_ by omega)).trans mC;have HY:=Lib.hid y12;clear y1 y2 y12 x2 hpo mC
         by_cases hm:1000000<m
         .go_wp2
          go_ret3
          exact⟨HX.out.2.trans ((HQ.out.2.2.2.1.trans (HY.out.mono HQ.out.2.2.2.1.size)).mono (by omega)),Or.inl rfl⟩
         have iw8:IntKind.i64.wrap (r-m)=r-m:=by rw[IntKind.wrap_i64];omega
         go_wp2;go_roundw
         case rel=>exact⟨j+1,_,_,hlj,by go_num,rfl,KEY.out μt m HY.out m1 m2 (by omega) (λh=>by omega)⟩
         case measure=>simp[intOf];omega
        .have d1:¬(j:Int)<(s.outs.length:Int)-1:=by omega
         have f6:=E5 HQ.out.1 q
         by_cases hm:1000000<r
         .go_wp2
          go_ret3
          exact⟨HX.out.2.trans (HQ.out.2.2.2.1.mono (by omega)),Or.inl rfl⟩
         have iw8:IntKind.i64.wrap (r-r)=r-r:=by rw[IntKind.wrap_i64];omega
         go_wp2;go_roundw
         case rel=>exact⟨j+1,_,_,hlj,by go_num,rfl,by have h:=KEY.out wr r (Below.refl _ _) hr0 (Int.le_refl _) (by omega) (λ_=>rfl);rw[Int.sub_self]at h;exact h⟩
         case measure=>simp[intOf];omega
       .obtain rfl:j=s.outs.length:=by omega
        have x2:wr.cell? ⟨θN.heap.size,2,none⟩=some (.slice oa s.outs.length oc):=cell_of θa 2;have HQ:=Lib.hid (And.intro γc (And.intro θa (And.intro φq (And.intro κn hout))));clear γc θa φq κn hout;go_wp2;go_roundw
        case rel=>exact⟨k+1,ms',ls++ [x],gs++ [px],hlt,by go_num,HQ.out.2.2.2.2.done HK.out.1 HD.out.1 HS.out.2.1 (by rw[HSM.out];omega) rfl ⟨px1,px2⟩ (by omega),HQ.out.1,HQ.out.2.2.1,HQ.out.2.2.2.1,by omega⟩
        case measure=>simp[intOf];omega
  .obtain rfl:k=b.steps.length:=by omega
   have hll:=HD.out.1.ll;have hlm:=HD.out.1.lm;obtain⟨ωb,cl,rfl, -,hrl⟩:=ownsRow.PT (B:=θN.heap.size) HD.out.2.2.1;go_wp2
   go_ret3
   refine⟨HX.out.2.trans (HD.out.2.2.2.mono (by omega)),Or.inr ⟨ms,ls,gs,_,_,_,_,rfl,HD.out.1, λhn=>⟨_,0,rfl,by omega, λi j hi hj=>?_⟩,?_⟩⟩
   .obtain rfl:j=0:=by omega
    rw[show 0+(i*1+0)=i from by omega,y8 HD.out.2.1 hi];simp[List.getElem?_eq_getElem hi]
   .exact hrl (Nat.le_refl _)
end Go.Proofs
end
section
namespace Go.Proofs
open Go Go.RowKit Go.Maps
structure Fits(ms:List Int)(s t:jD):Prop where
 pile:t.pile=s.pile
 l0:0<=t.lo
 l1:t.lo<=qab ms s.pile
 h0:qab ms s.pile<=t.hi
 h1:t.hi<=1000000
def qbG(b:dO)(ms:List Int)(sc:List jD):Prop:=∀(i:Nat)(t:jD),sc[i]?=some t->∃s,b.dA[i]?=some s∧Fits ms s t
theorem qbG.snoc{b:dO}{ms:List Int}{sc:List jD}{s t:jD}(h:qbG b ms sc)(hs:b.dA[sc.length]?=some s)(ht:Fits ms s t):qbG b ms (sc++ [t]):= λi u hu=>by
 by_cases hi:i<sc.length
 .rw[List.getElem?_append_left hi]at hu;exact h i u hu
 .have hl:=(List.getElem?_eq_some_iff.1 hu).1;rw[List.length_append,List.length_singleton]at hl;obtain rfl:i=sc.length:=by omega
  rw[List.getElem?_append_right (Nat.le_refl _),Nat.sub_self]at hu;cases hu;exact⟨s,hs,ht⟩
theorem qbz{w w':World}{base size n:Nat}{e:TypeId}{v:Value}{xs:List Value}(h:w.ownsRow base e size v n xs)(hk:∀g,v.ownBlock=some g->w'.heap[g]?=w.heap[g]?):w'.ownsRow base e size v n xs:=by
 obtain⟨h1,h2⟩:=h;refine⟨h1,h2.imp id ?_⟩;rintro⟨g,cap,cur,rfl,hb,hg,r⟩;exact⟨g,cap,cur,rfl,hb,(hk g rfl).trans hg,r⟩
theorem qe7{a b c:Int}:∀u∈ [Value.int .i64 a,.int .i64 b,.int .i64 c],u.oneCell'=true:= λu hu=>by
 simp only[List.mem_cons,List.not_mem_nil,or_false]at hu;rcases hu with rfl|rfl|rfl<;>rfl
theorem qcT{a b c:Int}:∀u∈ [Value.int .i64 a,.int .i64 b,.int .i64 c],Par.eF u=true:= λu hu=>by
 simp only[List.mem_cons,List.not_mem_nil,or_false]at hu;rcases hu with rfl|rfl|rfl<;>rfl
theorem qce{a b c:Int}:∀u∈(Value.agg #[.int .i64 a,.int .i64 b,.int .i64 c]).cells,Par.eF u=true:= λu hu=>by
 simp[Value.cells]at hu;rcases hu with rfl|rfl|rfl<;>rfl
theorem qcD{W:World}{x:Nat}{a b c d u:Value}{t:TypeId}(h:W.heap[x]?=some (.cells #[a,b,c,d] t)):(W.setCell ⟨x,3,none⟩ u).heap[x]?=some (.cells #[a,b,c,u] t):=by
 unfold World.setCell;simp[Array.getElem?_modify,h]
theorem qcE{W:World}{x:Nat}{a b c d a' b' c' d':Value}{t:TypeId}(h:W.heap[x]?=some (.cells #[a,b,c,d] t)):((((W.setCell ⟨x,0,none⟩ a').setCell ⟨x,1,none⟩ b').setCell ⟨x,2,none⟩ c').setCell ⟨x,3,none⟩ d').heap[x]?=some (.cells #[a',b',c',d'] t):=by
 unfold World.setCell;simp[Array.getElem?_modify,h]
variable [Lo.St]
def qeh(w:World)(b:dO)(v:gJ)(ms:List Int)(e:Ending)(w':World):Prop:=
 Below w.heap.size w w'∧∃sc A c,e=.returned (dY { b with dA:=sc } { v with ac:=A,cc:=c })∧sc.length=b.dA.length∧qbG b ms sc∧sc.length<=c∧Rd w' w'.heap.size 3 A sc.length (vD sc)∧Par.dU w' (.slice A sc.length c)∧∀a,A=some a->w.heap.size<=a.block∧a.block<w'.heap.size
theorem Lo.qbm{w:World}{B:Nat}{b:dO}{v:gJ}{x:Value}{A:Option Addr}{ms:List Int}{cp:Nat}(hx:x=dY b v)(hb:fC w B b v)(hB:B<=w.heap.size)(hs:b.small)(hc:fG b=0)(hl:ms.length=b.dz.length)(hr:∀x∈ms,0<=x∧x<=1000000)(hm:xJ w B A ms):
 Calls Lo.prog 8 #[x,.slice A ms.length cp] w (qeh w b v ms):=by
 obtain⟨U,U2,U3,U4,U5,U6⟩:=Lo.facts;have C2:=Lo.call Tryz.func20;subst hx;have hg:=lM hs hc;have hn8:=hg.n8;have ag1:=hg.p12;obtain⟨hk1,hk2⟩:=(EP hc).2.2.2;have qei:=CW hk2;obtain⟨i0,hi,hz0,hz1,hz2⟩:=info_parts Lo.YS;obtain⟨X,hX,sX,bX,hA,hC⟩:=bx9 hb hB;have hM:∀W,Below X.heap.size X W->xJ W B A ms:= λW hW=>hm.keep λd o h=>dH (bX.trans (hW.mono bX.size)) d o (by omega)
 have HC:=Lib.hid hC;have HA:=Lib.hid hA;have HM:=Lib.hid (And.intro hM (And.intro hl hr));have HX:=Lib.hid (And.intro hX bX);have HK:=Lib.hid (And.intro hc hs);clear hX bX hA hC hb hc hM hm hl hr;obtain⟨f0,f1,f2,f3⟩:=al8 (HC.out X (Below.refl _ _));show Calls Lo.prog 8 #[Value.agg (lN b v),_] w _;unfold lN;go_enter Lo.get Tryz.func8,Tryz.ntmps8;go_wp2;have hyy:=HX.out.1;unfold lN at hyy;rw[hyy];clear hyy;obtain⟨Y,hY⟩:∃Y,(X.alloc (.cells #[.slice none 0 0,.slice none 0 0,.slice none 0 0,.slice none 0 0] 26)).alloc (.cells #[.slice v.ah b.dJ.length v.ch,.slice v.ap b.dz.length v.cp,.slice v.iT b.steps.length v.cs,.slice none 0 0] 26)=Y:=⟨_,rfl⟩;have bY:Below X.heap.size X Y:=hY ▸ ((Below.refl _ _).alloc (Nat.le_refl _) _).alloc (by simp) _;have sY:Y.heap.size=w.heap.size+3:=by rw[<-hY];simp;omega
 have y2:Y.heap[w.heap.size+1+1]?=some (.cells #[.slice v.ah b.dJ.length v.ch,.slice v.ap b.dz.length v.cp,.slice v.iT b.steps.length v.cs,.slice none 0 0] 26):=by
  rw[<-hY,show w.heap.size+1+1=(X.alloc (.cells #[.slice none 0 0,.slice none 0 0,.slice none 0 0,.slice none 0 0] 26)).heap.size by simp;omega];exact World.alloc_heap_new _ _
 have y1:Y.heap[w.heap.size+1]?=some (.cells #[.slice none 0 0,.slice none 0 0,.slice none 0 0,.slice none 0 0] 26):=by
  rw[<-hY,Below.heap_alloc _ _ _ (by simp;omega), <-sX];exact World.alloc_heap_new _ _
 rw[hY];have HY:=Lib.hid (And.intro y2 (And.intro bY y1));clear hY y2 bY y1 f0 f1 f2 f3
 go_loopw [6] (λi wr=>∃(k:Nat)(sc:List jD)(u:Value),k<=b.dA.length∧i=.int .i64 (k:Int)∧sc.length=k∧qbG b ms sc∧wr.heap[w.heap.size+1+1]?=some (.cells #[.slice v.ah b.dJ.length v.ch,.slice v.ap b.dz.length v.cp,.slice v.iT b.steps.length v.cs,u] 26)∧wr.ownsRow (w.heap.size+3) 58 3 u k (cells3 sc)∧Par.dU wr u∧Below (w.heap.size+2) Y wr∧w.heap.size+3<=wr.heap.size) (λi _=>b.dA.length-(intOf i).toNat)
 case atStart=>exact⟨0,[],_,Nat.zero_le _,rfl,rfl, λi t h=>by simp at h,HY.out.1,World.ownsRow_nil _ _ _ _,Par.dU.nil _,Below.refl _ _,by omega⟩
 case round=>
  obtain⟨k,sc,u,hk,rfl,hsk,hst,ho,hown,hpl,hbw,hsz⟩:=hrel;have bXr:Below X.heap.size X wr:=HY.out.2.1.trans (hbw.mono (by omega));obtain⟨f0,f1,f2,f3⟩:=al8 (HC.out wr bXr);have HD:=Lib.hid (And.intro hsk (And.intro hst (And.intro ho (And.intro hown (And.intro hpl (And.intro hbw bXr))))));clear hsk hst ho hown hpl hbw bXr
  by_cases hlt:k<b.dA.length
  .have hlt':(k:Int)<(b.dA.length:Int):=by omega
   obtain⟨bb,off,ex,hbb,hcc⟩:=(HA.out wr HD.out.2.2.2.2.2.2).dA (by omega);obtain⟨r0,r1,r2⟩:=CU hcc hlt;have hse:b.dA[k]?=some b.dA[k]:=List.getElem?_eq_getElem hlt
   have hso:=qei _ (List.getElem_mem hlt);generalize b.dA[k]=s at r0 r1 r2 hse hso;obtain⟨p,lo,hi'⟩:=s;simp only[eT,Bool.and_eq_true,decide_eq_true_eq]at r0 r1 r2 hso;obtain⟨⟨hp0,hp1⟩,hin⟩:=hso;have hlh:0<=lo∧lo<=hi'∧hi'<=1000000:=by omega
   obtain⟨q,rfl⟩:∃q:Nat,p=(q:Int):=⟨p.toNat,by omega⟩;have hql:q<ms.length:=by rw[HM.out.2.1];omega
   have hqp:(q:Int)<(ms.length:Int):=by omega
   obtain⟨bm,om,em,hbm,hcm⟩:=(HM.out.1 wr HD.out.2.2.2.2.2.2) (show 0<ms.length by omega);have hmq:=PT hcm hql;rw[<-qbx hql]at hmq;have hmr:=qb2 HM.out.2.2 (q:Int);rw[ex]at f3;subst em;obtain⟨n,hn⟩:∃n,qab ms (q:Int)=n:=⟨_,rfl⟩;rw[hn]at hmq hmr;have HN:=Lib.hid (And.intro hn hse);clear hn hse hcm hcc ex hin;have m1:(wr.alloc (.cells #[.int .i64 (q:Int),.int .i64 lo,.int .i64 hi'] 58)).cell? ⟨bm,om+q,none⟩=some (.int .i64 n):=(World.cell?_alloc_past _ _ _ (by show bm<_;omega)).trans hmq;have o3:(wr.alloc (.cells #[.int .i64 (q:Int),.int .i64 lo,.int .i64 hi'] 58)).cell? ⟨w.heap.size+1+1,3,none⟩=some u:=(World.cell?_alloc_past _ _ _ (by show w.heap.size+1+1<_;omega)).trans (cell_of HD.out.2.2.1 3);clear hmq;have hfr:∀W:World,Below wr.heap.size wr W->W.ownsRow (w.heap.size+3) 58 3 u k (cells3 sc)∧Par.dU W u:= λW hW=>⟨ownsRow.below HD.out.2.2.2.1 hW,Par.dU.keep HD.out.2.2.2.2.1 λg hg=>hW.block g (HD.out.2.2.2.1.lt g hg).2⟩
   have key:∀(W3:World)(lo2 hi2:Int)(v5:Value)(W5:World),Below wr.heap.size wr W3->W5.ownsRow (w.heap.size+3) 58 3 v5 (k+1) (cells3 sc++ [.int .i64 (q:Int),.int .i64 lo2,.int .i64 hi2])->(W3.alloc (.cells #[.int .i64 (q:Int),.int .i64 lo2,.int .i64 hi2] 58)).grownBy W5 u.ownBlock->Par.dU W5 v5->0<=lo2->lo2<=n->n<=hi2->hi2<=1000000->
    (W5.heap[w.heap.size+1+1]?=some (.cells #[.slice v.ah b.dJ.length v.ch,.slice v.ap b.dz.length v.cp,.slice v.iT b.steps.length v.cs,u] 26))∧
    ∃(sc':List jD),sc'.length=k+1∧qbG b ms sc'∧(W5.setCell ⟨w.heap.size+1+1,3,none⟩ v5).heap[w.heap.size+1+1]?=some (.cells #[.slice v.ah b.dJ.length v.ch,.slice v.ap b.dz.length v.cp,.slice v.iT b.steps.length v.cs,v5] 26)∧(W5.setCell ⟨w.heap.size+1+1,3,none⟩ v5).ownsRow (w.heap.size+3) 58 3 v5 (k+1) (cells3 sc')∧Par.dU (W5.setCell ⟨w.heap.size+1+1,3,none⟩ v5) v5∧Below (w.heap.size+2) Y (W5.setCell ⟨w.heap.size+1+1,3,none⟩ v5)∧w.heap.size+3<=(W5.setCell ⟨w.heap.size+1+1,3,none⟩ v5).heap.size:=by
    intro W3 lo2 hi2 v5 W5 hW h5 g5 p5 e1 e2 e3 e4;have z3:=hW.size;have z5:=g5.size;rw[World.size_alloc]at z5;have PV:W5.heap[w.heap.size+1+1]?=some (.cells #[.slice v.ah b.dJ.length v.ch,.slice v.ap b.dz.length v.cp,.slice v.iT b.steps.length v.cs,u] 26):=(g5.block _ (by rw[World.size_alloc];omega) λe=>by have :=(HD.out.2.2.2.1.lt _ e.symm).1;omega).trans ((Below.heap_alloc _ _ _ (by omega)).trans ((hW.block _ (by omega)).trans HD.out.2.2.1))
    have hne:∀g,v5.ownBlock=some g->g≠w.heap.size+1+1:= λg hg=>by have :=(h5.lt g hg).1;omega
    refine⟨PV,sc++ [⟨(q:Int),lo2,hi2⟩],by simp[HD.out.1],HD.out.2.1.snoc (s:=⟨(q:Int),lo,hi'⟩) (by rw[HD.out.1];exact HN.out.2) ⟨rfl,e1,by rw[HN.out.1];exact e2,by rw[HN.out.1];exact e3,e4⟩,qcD PV,?_,Par.dU.keep p5 λg hg=>Below.heap_setCell _ _ _ _ (hne g hg),?_,by simp only[World.setCell,Array.size_modify];omega⟩
    .have h6:W5.ownsRow (w.heap.size+3) 58 3 v5 (k+1) (cells3 (sc++ [⟨(q:Int),lo2,hi2⟩])):=by
      rw[<-qbF];exact h5
     exact qbz h6 λg hg=>Below.heap_setCell _ _ _ _ (hne g hg)
    .refine Below.setCell (Below.grown ((HD.out.2.2.2.2.2.1.trans (hW.mono (by omega))).alloc (by omega) _) g5 (by rw[World.size_alloc];omega) λj hj=>?_) (show w.heap.size+2<=w.heap.size+1+1 by omega) _;have :=(HD.out.2.2.2.1.lt j hj).1;omega
   have KEY:=Lib.hid key;have HFR:=Lib.hid hfr;clear key hfr;have hout:∀(lo2 hi2:Int)(W3:World)(H:Nat),Below wr.heap.size wr W3->W3.heap.size=H->(W3.alloc (.cells #[.int .i64 (q:Int),.int .i64 lo2,.int .i64 hi2] 58)).heap[H]?=some (.cells #[.int .i64 (q:Int),.int .i64 lo2,.int .i64 hi2] 58)∧w.heap.size+3<=(W3.alloc (.cells #[.int .i64 (q:Int),.int .i64 lo2,.int .i64 hi2] 58)).heap.size:= λlo2 hi2 W3 H hW e=>⟨by rw[<-e];exact World.alloc_heap_new _ _,by have :=hW.size;rw[World.size_alloc];omega⟩
   have qdV:=Lib.hid hout;clear hout;rcases(show(¬n<lo∧¬hi'<n)∨n<lo∨(¬n<lo∧hi'<n) by omega)with⟨h1,h2⟩|h1|⟨h1,h2⟩
   .have b3:Below wr.heap.size wr (wr.alloc (.cells #[.int .i64 (q:Int),.int .i64 lo,.int .i64 hi'] 58)):=(Below.refl _ _).alloc (Nat.le_refl _) _;have B3:=Lib.hid b3;clear b3
    go_wp2_with(at_builtin;go_loud (refine Par.fZ rfl _ _ 24 rfl (w.heap.size+3) 58 i0 (.agg #[.int .i64 0,.int .i64 0,.int .i64 0]) 3 24 Lo.Xi hi hz0 hz1 hz2 rfl (by decide) _ k (cells3 sc) rfl ((HFR.out _ B3.out).1.alloc _) ⟨wr.heap.size+1,0,none⟩ 1 1 [.int .i64 (q:Int),.int .i64 lo,.int .i64 hi'] rfl rfl (World.news_of_block (t:=58) (fr:=(0,0)) (cs:= #[.int .i64 (q:Int),.int .i64 lo,.int .i64 hi']) (qdV.out lo hi' _ _ B3.out (World.size_alloc _ _)).1) qe7 (by unfold maxLen;omega) (by omega) (qdV.out lo hi' _ _ B3.out (World.size_alloc _ _)).2 ((HFR.out _ B3.out).2.alloc _) qcT qce ?_))
    intro v5 W5 o5 g5 _ p5;obtain⟨g9,qej,rfl, -, -⟩:=ownsRow.shape o5 (by omega);obtain⟨PV,sc',hR⟩:=KEY.out _ lo hi' _ W5 B3.out o5 g5 p5 (by omega) (by omega) (by omega) (by omega);have z5:W5.frozen? ⟨w.heap.size+1+1,3,none⟩=false:=by unfold World.frozen?;simp only[PV];rfl
    have c9:=cell_of PV 3;have HRR:=Lib.hid hR;clear PV hR o5 g5 p5;go_wp2;go_roundw
    case rel=>exact⟨k+1,sc',_,hlt,by go_num,HRR.out⟩
    case measure=>simp[intOf];omega
   all_goals
    obtain⟨mx,hmx⟩:∃mx,(if(k:Int)%4<n then n-(k:Int)%4 else 0)=mx:=⟨_,rfl⟩;have qeo:0<=mx∧mx<=n:=by rw[<-hmx];split<;>omega
    obtain⟨mn,hmn⟩:∃mn,(if n+(k:Int)%3<1000000 then n+(k:Int)%3 else 1000000)=mn:=⟨_,rfl⟩;have qeg:n<=mn∧mn<=1000000:=by rw[<-hmn];split<;>omega
    go_wp2;refine(Lo.qbk _ _ _).mono ?_
    rintro e W2⟨rfl,b2⟩;have t2:W2.heap[wr.heap.size]?=some (.cells #[.int .i64 (q:Int),.int .i64 lo,.int .i64 hi'] 58):=(b2.block _ (by rw[World.size_alloc];omega)).trans (World.alloc_heap_new _ _)
    have o2:=(dH b2 _ _ (by rw[World.size_alloc];omega)).trans o3;have s2:=b2.size;rw[World.size_alloc]at s2;have c0:W2.cell? ⟨wr.heap.size,0,none⟩=some (.int .i64 (q:Int)):=cell_of t2 0;have c1:W2.cell? ⟨wr.heap.size,1,none⟩=some (.int .i64 lo):=cell_of t2 1;have c2:W2.cell? ⟨wr.heap.size,2,none⟩=some (.int .i64 hi'):=cell_of t2 2;have z1:W2.frozen? ⟨wr.heap.size,1,none⟩=false:=by unfold World.frozen?;simp only[t2];rfl
    have z2:W2.frozen? ⟨wr.heap.size,2,none⟩=false:=by unfold World.frozen?;simp only[t2];rfl
    have b3:Below wr.heap.size wr ((W2.setCell ⟨wr.heap.size,1,none⟩ (.int .i64 mx)).setCell ⟨wr.heap.size,2,none⟩ (.int .i64 mn)):=((((Below.refl _ _).alloc (Nat.le_refl _) _).trans (b2.mono (by rw[World.size_alloc];omega))).setCell (Nat.le_refl _) _).setCell (Nat.le_refl _) _;have s3:((W2.setCell ⟨wr.heap.size,1,none⟩ (.int .i64 mx)).setCell ⟨wr.heap.size,2,none⟩ (.int .i64 mn)).heap.size=W2.heap.size:=by simp[World.setCell]
    have B3:=Lib.hid (And.intro b3 s3);clear b3 s3 t2 b2 m1 o3
    go_wp2_with(at_builtin;go_loud (refine Par.fZ rfl _ _ 24 rfl (w.heap.size+3) 58 i0 (.agg #[.int .i64 0,.int .i64 0,.int .i64 0]) 3 24 Lo.Xi hi hz0 hz1 hz2 rfl (by decide) _ k (cells3 sc) rfl ((HFR.out _ B3.out.1).1.alloc _) ⟨W2.heap.size,0,none⟩ 1 1 [.int .i64 (q:Int),.int .i64 mx,.int .i64 mn] rfl rfl (World.news_of_block (t:=58) (fr:=(0,0)) (cs:= #[.int .i64 (q:Int),.int .i64 mx,.int .i64 mn]) (qdV.out mx mn _ _ B3.out.1 B3.out.2).1) qe7 (by unfold maxLen;omega) (by omega) (qdV.out mx mn _ _ B3.out.1 B3.out.2).2 ((HFR.out _ B3.out.1).2.alloc _) qcT qce ?_))
    intro v5 W5 o5 g5 _ p5;obtain⟨g9,qej,rfl, -, -⟩:=ownsRow.shape o5 (by omega);obtain⟨PV,sc',hR⟩:=KEY.out _ mx mn _ W5 B3.out.1 o5 g5 p5 (by omega) (by omega) (by omega) (by omega);have z5:W5.frozen? ⟨w.heap.size+1+1,3,none⟩=false:=by unfold World.frozen?;simp only[PV];rfl
    have c9:=cell_of PV 3;have HRR:=Lib.hid hR;clear PV hR o5 g5 p5;go_wp2;go_roundw
    case rel=>exact⟨k+1,sc',_,hlt,by go_num,HRR.out⟩
    case measure=>simp[intOf];omega
  .obtain rfl:k=b.dA.length:=by omega
   have hsl:=HD.out.1;obtain⟨A',c',rfl,hcc,hrd⟩:=ownsRow.rd (B:=wr.heap.size) (f:=vD sc) HD.out.2.2.2.1 (λi j hi hj=>qaM sc (by omega) hj);have qe8:=hrd _ (Nat.le_refl _) (Nat.le_refl _)
   have hlt2:∀a,A'=some a->w.heap.size<=a.block∧a.block<wr.heap.size:= λa e=>by
    subst e;have :=HD.out.2.2.2.1.lt a.block rfl;omega
   have y1:wr.heap[w.heap.size+1]?=some (.cells #[.slice none 0 0,.slice none 0 0,.slice none 0 0,.slice none 0 0] 26):=(HD.out.2.2.2.2.2.1.block _ (by omega)).trans HY.out.2.2
   obtain⟨q0,q1,q2,q3⟩:=al8 y1;obtain⟨o0,o1,o2,o3⟩:=al8 HD.out.2.2.1;have δC:∀j,wr.frozen? ⟨w.heap.size+1,j,none⟩=false:= λj=>by unfold World.frozen?;simp only[y1];simp
   have z0:=δC 0;have z1:=δC 1;have z2:=δC 2;have z3:=δC 3;have HE:=Lib.hid (And.intro qe8 (And.intro hlt2 (And.intro hcc y1)));clear hrd qe8 hlt2 hcc y1 δC;go_wp2;obtain⟨Z,hZ⟩:∃Z,(((wr.setCell ⟨w.heap.size+1,0,none⟩ (.slice v.ah b.dJ.length v.ch)).setCell ⟨w.heap.size+1,1,none⟩ (.slice v.ap b.dz.length v.cp)).setCell ⟨w.heap.size+1,2,none⟩ (.slice v.iT b.steps.length v.cs)).setCell ⟨w.heap.size+1,3,none⟩ (.slice A' b.dA.length c')=Z:=⟨_,rfl⟩;have βU:Z.heap[w.heap.size+1]?=some (.cells #[.slice v.ah b.dJ.length v.ch,.slice v.ap b.dz.length v.cp,.slice v.iT b.steps.length v.cs,.slice A' b.dA.length c'] 26):=by rw[<-hZ];exact qcE HE.out.2.2.2
   have πz:Z.heap.size=wr.heap.size:=by rw[<-hZ];simp[World.setCell]
   have ψ4:∀g,g≠w.heap.size+1->Z.heap[g]?=wr.heap[g]?:= λg hg=>by
    rw[<-hZ];exact(Below.heap_setCell _ _ _ _ hg).trans ((Below.heap_setCell _ _ _ _ hg).trans ((Below.heap_setCell _ _ _ _ hg).trans (Below.heap_setCell _ _ _ _ hg)))
   have bZ:Below w.heap.size w Z:=by
    rw[<-hZ];exact(((((HX.out.2.trans (HD.out.2.2.2.2.2.2.mono (by omega))).setCell (p:=⟨w.heap.size+1,0,none⟩) (by show w.heap.size<=w.heap.size+1;omega) _).setCell (p:=⟨w.heap.size+1,1,none⟩) (by show w.heap.size<=w.heap.size+1;omega) _).setCell (p:=⟨w.heap.size+1,2,none⟩) (by show w.heap.size<=w.heap.size+1;omega) _).setCell (p:=⟨w.heap.size+1,3,none⟩) (by show w.heap.size<=w.heap.size+1;omega) _)
   rw[hZ];have zne:∀g,(Value.slice A' b.dA.length c').ownBlock=some g->g≠w.heap.size+1:= λg hg=>by have :=(HD.out.2.2.2.1.lt g hg).1;omega
   obtain⟨A2,c2,e2, -,hrz⟩:=ownsRow.rd (B:=Z.heap.size) (f:=vD sc) (qbz HD.out.2.2.2.1 λg hg=>ψ4 g (zne g hg)) (λi j hi hj=>qaM sc (by omega) hj);cases e2;have qe9:=hrz _ (Nat.le_refl _) (Nat.le_refl _);obtain⟨q0,q1,q2,q3⟩:=al8 βU;have hf:Tryz.f8.results= #[ResultVar.cell 4 26]:=by unfold Tryz.f8;rfl
   rw[<-hsl]at q3 qe9;refine bodyPost_ret (v:=dY { b with dA:=sc } { v with ac:=A',cc:=c' }) ?_ rfl ⟨bZ,sc,A',c',rfl,hsl,HD.out.2.1,by rw[hsl];exact HE.out.2.2.1,qe9,?_, λa e=>by rw[πz];exact HE.out.2.1 a e⟩
   .unfold dY;simp[results,hf,go_sem,U,U2,U3,U4,U5,U6,q0,q1,q2,q3]
   .rw[hsl];exact Par.dU.keep HD.out.2.2.2.2.1 λg hg=>ψ4 g (zne g hg)
end Go.Proofs
end
section
namespace Go.Proofs
open Go Go.RowKit Go.Maps
variable [Lo.St]
def qbQ(s:Nat)(p:eX×Int):Int:=p.2*((bit s p.1.fr:Int)-bit s p.1.to)
def qb4(s:Nat)(l:List (eX×Int)):Int:=(l.map (qbQ s)).sum
def qcF(l:List (eX×Int)):Prop:=∀p∈l,p.1.lo<=p.2∧p.2<=p.1.hi
theorem qaA(s:Nat)(l r:List (eX×Int)):qb4 s (l++r)=qb4 s l+qb4 s r:=by simp[qb4]
theorem qbn(s:Nat){p:eX×Int}(h:p.1.lo<=p.2∧p.2<=p.1.hi):OJ s 0 p.1<=qbQ s p∧(kJ s p.1.fr p.1.to=1->qbQ s p= -p.2∧OJ s 0 p.1= -p.1.hi)∧(kJ s p.1.fr p.1.to=2->qbQ s p=p.2∧OJ s 0 p.1=p.1.lo):=by
 obtain⟨x,a⟩:=p;dsimp only at h⊢;unfold OJ qbQ kJ;dsimp only;have h1:=KG s x.fr;have h2:=KG s x.to;generalize bit s x.fr=p at *;generalize bit s x.to=q at *;rcases(by omega:p=0∨p=1)with rfl|rfl<;>rcases(by omega:q=0∨q=1)with rfl|rfl<;>simp <;>omega
theorem qaB(s:Nat):∀{l:List (eX×Int)},qcF l->qcB s (l.map Prod.fst)<=qb4 s l∧∀p∈l,qcB s (l.map Prod.fst)-OJ s 0 p.1<=qb4 s l-qbQ s p
 | [],_=>⟨Int.le_refl _, λp h=>by cases h⟩
 |q::l,h=>by
  obtain⟨h1,h2⟩:=qaB s (l:=l) λp hp=>h p (List.mem_cons_of_mem _ hp)
  have h3:=(qbn s (h q List.mem_cons_self)).1;have e:qb4 s (q::l)=qbQ s q+qb4 s l:=by simp[qb4]
  have e2:qcB s ((q::l).map Prod.fst)=OJ s 0 q.1+qcB s (l.map Prod.fst):=rfl;refine⟨by omega, λp hp=>?_⟩;rcases List.mem_cons.1 hp with rfl|hp
  .omega
  .have :=h2 p hp;omega
theorem qbH{l:List (eX×Int)}{nd:Nat}(h:qcF l)(h0:∀s,qb4 s l=0):gN (l.map Prod.fst) nd=true:=by
 refine qcC (λx hx=>?_) λs _=>?_
 .obtain⟨p,hp,rfl⟩:=List.mem_map.1 hx;have :=h p hp;omega
 .rw[qaE];have :=(qaB s h).1;rw[h0]at this;exact this
theorem qbI{l:List (eX×Int)}{nd k:Nat}{p:eX×Int}(h:qcF l)(h0:∀s,qb4 s l=0)(hk:l[k]?=some p):lO9 (mG (l.map Prod.fst) nd) k<=p.2∧p.2<=hI9 (mG (l.map Prod.fst) nd) k:=by
 have hx:(l.map Prod.fst)[k]?=some p.1:=by rw[List.getElem?_map,hk];rfl
 obtain⟨-, -, -, -,e,f⟩:=qd4 (nd:=nd) hx;have hp:=List.mem_of_getElem? hk;have hi:=h p hp;refine⟨?_,?_⟩
 .rcases e with e|⟨s,_,h1,e⟩
  .omega
  .rw[qaE]at e;have h2:=(qaB s h).2 p hp;rw[h0]at h2;obtain⟨n1,n2⟩:=(qbn s hi).2.1 h1;omega
 .rcases f with f|⟨s,_,h1,f⟩
  .omega
  .rw[qaE]at f;have h2:=(qaB s h).2 p hp;rw[h0]at h2;obtain⟨n1,n2⟩:=(qbn s hi).2.2 h1;omega
def qad(f:Nat->Int):Nat->Int
 |0=>0
 |n+1=>qad f n+f n
theorem qa8{f g:Nat->Int}:∀{n:Nat},(∀k,k<n->f k=g k)->qad f n=qad g n
 |0,_=>rfl
 |n+1,h=>by
  unfold qad;rw[qa8 λk hk=>h k (by omega),h n (by omega)]
theorem qaC(f g:Nat->Int):∀n,qad (λk=>f k+g k) n=qad f n+qad g n
 |0=>rfl
 |n+1=>by unfold qad;rw[qaC f g n];omega
theorem qb5(f:Nat->Int)(c:Int):∀n,qad (λk=>f k*c) n=qad f n*c
 |0=>by simp[qad]
 |n+1=>by unfold qad;rw[qb5 f c n,Int.add_mul]
theorem qaq:∀n,qad (λ_=>0) n=0
 |0=>rfl
 |n+1=>by unfold qad;rw[qaq n];rfl
theorem qbA{f:Nat->Int}{q:Nat}:∀{n:Nat},q<n->qad (λk=>if(k:Int)=(q:Int)then f k else 0) n=f q
 |n+1,h=>by
  unfold qad
  by_cases e:q=n
  .subst e;rw[if_pos rfl,qa8 (g:= λ_=>0) λk hk=>if_neg (by omega),qaq];omega
  .rw[qbA (f:=f) (by omega),if_neg (by omega)];omega
theorem qcf{ms:List Int}{n:Nat}:∀{m:List Int},m.Nodup->(∀p∈m,0<=p∧p<(n:Int))->qad (λk=>if m.contains (k:Int)=true then qab ms k else 0) n=qa1 ms m
 | [],_,_=>by
   rw[qa8 (g:= λ_=>0) λk hk=>by simp,qaq];rfl
 |q::r,hn,hr=>by
  obtain⟨h1,h2⟩:=List.nodup_cons.1 hn;have ih:=qcf (ms:=ms) h2 λp hp=>hr p (List.mem_cons_of_mem _ hp)
  have hq:=hr q List.mem_cons_self;obtain⟨q,rfl⟩:∃j:Nat,q=(j:Int):=⟨q.toNat,by omega⟩;have e:qa1 ms ((q:Int)::r)=qab ms (q:Int)+qa1 ms r:=by simp[qa1]
  rw[e, <-ih, <-qbA (f:= λk=>qab ms k) (show q<n by omega), <-qaC];refine qa8 λk hk=>?_
  by_cases e1:(k:Int)=(q:Int)
  .rw[if_pos e1,e1,if_pos (by simp),if_neg (by simpa using h1)];omega
  .rw[if_neg e1]
   by_cases e2:r.contains (k:Int)=true
   .rw[if_pos e2,if_pos (by rw[List.contains_cons,e2];simp)];omega
   .rw[if_neg e2,if_neg (λhh=>by
     rw[List.contains_cons,Bool.or_eq_true]at hh;rcases hh with hh|hh
     .exact e1 (eq_of_beq hh)
     .exact e2 hh)];omega
theorem qaH{f:dW->List Int}{ss:List dW}{p:Int}:∀k,k<=ss.length->(∀j s,j<k->ss[j]?=some s->p ∉ f s)->qg (fP f ss k) p=none
 |0,_,_=>rfl
 |k+1,hk,h=>by
  rw[qah (by omega),qac,if_neg (by have :=h k _ (by omega) (List.getElem?_eq_getElem (show k<ss.length by omega));simpa using this)];exact qaH k (by omega) λj s hj=>h j s (by omega)
def qar(γ:Nat->Int):Option Int->Int
 |none=>0
 |some i=>γ i.toNat
theorem qam{f:dW->List Int}{ss:List dW}{ms:List Int}{n:Nat}{γ:Nat->Int}(hn:(ss.flatMap f).Nodup)(hr:∀s∈ss,∀p∈f s,0<=p∧p<(n:Int)):∀k,k<=ss.length->qad (λp=>qab ms p*qar γ (qg (fP f ss k) p)) n=qad (λi=>qa1 ms (f (ss.getD i ⟨0,[],[],0,0,0,0⟩))*γ i) k
 |0,_=>by
  rw[qa8 (g:= λ_=>0) λk hk=>by simp[fP,qg,qar],qaq];rfl
 |k+1,hk=>by
  have ih:=qam (ms:=ms) (γ:=γ) hn hr k (by omega);have hlt:k<ss.length:=by omega
  have hg:ss.getD k ⟨0,[],[],0,0,0,0⟩=ss[k]:=by rw[List.getD_eq_getElem?_getD,List.getElem?_eq_getElem hlt];rfl
  have hd:((ss.take k).flatMap f++(ss.drop k).flatMap f).Nodup:=by rw[<-List.flatMap_append,List.take_append_drop];exact hn
  rw[List.drop_eq_getElem_cons hlt,List.flatMap_cons]at hd;obtain⟨d1,d2,d3⟩:=List.nodup_append.1 hd;have hnd:(f ss[k]).Nodup:=(List.nodup_append.1 d2).1;show qad _ n=qad (λi=>qa1 ms (f (ss.getD i ⟨0,[],[],0,0,0,0⟩))*γ i) k+qa1 ms (f (ss.getD k ⟨0,[],[],0,0,0,0⟩))*γ k;rw[hg, <-ih, <-qcf hnd (hr _ (List.getElem_mem hlt)), <-qb5, <-qaC];refine qa8 λp hp=>?_
  rw[qah hlt,qac]
  by_cases e:(f ss[k]).contains (p:Int)=true
  .rw[if_pos e,if_pos e,qaH k (by omega) λj s hj hs hps=>d3 _ (List.mem_flatMap.2 ⟨s,?_,hps⟩) _ (List.mem_append_left _ (by simpa using e)) rfl]
   .simp[qar]
   .exact List.mem_iff_getElem?.2 ⟨j,by rw[List.getElem?_take_of_lt hj];exact hs⟩
  .rw[if_neg e,if_neg e];omega
def qa6:dW:=⟨0,[],[],0,0,0,0⟩
theorem qbo{b:dO}(hc:fG b=0):(b.steps.flatMap dW.outs).Nodup∧(b.steps.flatMap dW.ins).Nodup∧(∀s∈b.steps,∀p∈s.outs,0<=p∧p<(b.dz.length:Int))∧(∀s∈b.steps,∀p∈s.ins,0<=p∧p<(b.dz.length:Int))∧∀p:Nat,p<b.dz.length->(p:Int)∈b.steps.flatMap dW.outs:=by
 obtain⟨-,h2,h3⟩:=CX (EP hc).2.2.1;have hok:=qcQ h2 _ (Nat.le_refl _);obtain⟨n1,n2⟩:=Dw hok (Nat.le_refl _);have e2:(jr b.dJ.length b.dz.length b.steps [] []).2=gB b b.steps.length:=by rw[<-xA,tK hok (Nat.le_refl _),E9]
 have n3:=qaO hok _ (Nat.le_refl _);have hm:gB b b.steps.length=b.steps.flatMap dW.outs:=by unfold gB;rw[List.take_length]
 have hu:mM b b.steps.length=b.steps.flatMap dW.ins:=by unfold mM;rw[List.take_length]
 refine⟨hm ▸ n1,hu ▸ n3, λs hs p hp=>n2 p (hm ▸ List.mem_flatMap.2 ⟨s,hs,hp⟩), λs hs p hp=>?_, λp hp=>?_⟩
 .have :=(vE h2 s hs).2.1 p hp;omega
 .rw[<-hm];cases e:(gB b b.steps.length).contains (p:Int)with
  |true=>simpa using e
  |false=>rw[e2]at h3;exact absurd (Pf n1 n2 hp e) h3
theorem qan{f:dW->List Int}{ss:List dW}{p i:Int}:∀k,k<=ss.length->qg (fP f ss k) p=some i->∃j:Nat,j<k∧i=(j:Int)
 |0,_,h=>by simp[fP,qg]at h
 |k+1,hk,h=>by
  rw[qah (by omega),qac]at h;split at h
  .cases h;exact⟨k,by omega,rfl⟩
  .obtain⟨j,h1,h2⟩:=qan k (by omega) h;exact⟨j,by omega,h2⟩
theorem qaR{f:dW->List Int}{ss:List dW}{p:Int}:∀k,k<=ss.length->(∃j s,j<k∧ss[j]?=some s∧p∈f s)->qg (fP f ss k) p≠none
 |0,_,h=>by obtain⟨j,s,h1,_⟩:=h;omega
 |k+1,hk,h=>by
  rw[qah (by omega),qac];split
  .simp
  .rename_i hx;refine qaR k (by omega) ?_
   obtain⟨j,s,h1,h2,h3⟩:=h
   by_cases e:j=k
   .subst e;rw[List.getElem?_eq_getElem (by omega)]at h2;cases h2;exact absurd (by simpa using h3) hx
   .exact⟨j,s,by omega,h2,h3⟩
def qcG(n:Nat)(hand:Int)(i:Nat)(s:dW)(g l:Int):List (eX×Int):=[(⟨s.g0,s.g1,n,i⟩,g),(⟨s.l0,s.l1,i,if s.hand=hand then n+1 else n⟩,l)]
def qae(b:dO)(hand:Int)(ls gs:List Int):Nat->List (eX×Int)
 |0=>[]
 |k+1=>qae b hand ls gs k++(match b.steps[k]? with |some s=>qcG b.steps.length hand k s (gs.getD k 0) (ls.getD k 0)|none=>[])
def qa0(b:dO)(ls:List Int)(hand:Int)(k:Nat):Int:=qad (λi=>if(b.steps.getD i qa6).hand=hand then ls.getD i 0 else 0) k
def qcr(b:dO)(hand:Int)(ms ls gs:List Int):List (eX×Int):=
 (List.range b.dz.length).map (λp=>(mh b p,qab ms p))++qae b hand ls gs b.steps.length++(if 0<=hand then[(⟨0,8000000,b.steps.length+1,b.steps.length⟩,qa0 b ls hand b.steps.length)]else[])
theorem qaS(b:dO)(hand:Int)(ls gs:List Int):∀k,(qae b hand ls gs k).map Prod.fst=fq b hand k
 |0=>rfl
 |k+1=>by
  unfold qae fq;rw[List.map_append,qaS b hand ls gs k];cases b.steps[k]?<;>rfl
theorem qbB(b:dO)(hand:Int)(ms ls gs:List Int):(qcr b hand ms ls gs).map Prod.fst=fA b hand:=by
 unfold qcr fA eG;rw[List.map_append,List.map_append,qaS];congr 1
 .congr 1;rw[List.map_map];rfl
 .split<;>rfl
theorem qaT{b:dO}{hand:Int}{ls gs:List Int}{s:Nat}:∀k,k<=b.steps.length->qb4 s (qae b hand ls gs k)=qad (λi=>gs.getD i 0*((bit s b.steps.length:Int)-bit s i)+ls.getD i 0*((bit s i:Int)-bit s (if(b.steps.getD i qa6).hand=hand then b.steps.length+1 else b.steps.length))) k
 |0,_=>rfl
 |k+1,hk=>by
  have hg:b.steps.getD k qa6=b.steps[k]:=by rw[List.getD_eq_getElem?_getD,List.getElem?_eq_getElem (by omega)];rfl
  rw[qae,qaA,qaT k (by omega),List.getElem?_eq_getElem (show k<b.steps.length by omega)];show _=qad _ k+_;dsimp only;rw[hg];simp[qb4,qcG,qbQ]
theorem qaU(s:Nat)(f:Nat->eX×Int):∀n,qb4 s ((List.range n).map f)=qad (λk=>qbQ s (f k)) n
 |0=>rfl
 |n+1=>by
  rw[List.range_succ,List.map_append,qaA,qaU s f n];show _=qad _ n+_;simp[qb4]
theorem qcH{So ν3 g l a n x:Int}(hb:ν3+g=l+So):So*(a-n)-ν3*(a-n)+(g*(n-a)+l*(a-x))=l*(n-x):=by
 obtain rfl:So=ν3+g-l:=by omega
 simp only[Int.add_mul,Int.sub_mul,Int.mul_sub];omega
theorem qbC{b:dO}(hc:fG b=0){ms ls gs:List Int}(hd:Done b b.steps.length ms ls gs){hand:Int}(hh: -1<=hand)(s:Nat):qb4 s (qcr b hand ms ls gs)=0:=by
 obtain⟨n1,n2,r1,r2,hall⟩:=qbo hc;obtain⟨N,hN⟩:∃N,b.steps.length=N:=⟨_,rfl⟩;obtain⟨γ,hγ⟩:∃γ:Nat->Int,γ= λi=>(bit s i:Int)-bit s N:=⟨_,rfl⟩
 have k1:=qam (ms:=ms) (γ:=γ) n1 r1 b.steps.length (Nat.le_refl _);have k2:=qam (ms:=ms) (γ:=γ) n2 r2 b.steps.length (Nat.le_refl _)
 have hp:qb4 s ((List.range b.dz.length).map λp=>(mh b p,qab ms p))=qad (λp=>qab ms p*qar γ (qg (fP dW.outs b.steps b.steps.length) p)) b.dz.length-qad (λp=>qab ms p*qar γ (qg (fP dW.ins b.steps b.steps.length) p)) b.dz.length:=by
  have e:∀p,p<b.dz.length->qbQ s (mh b p,qab ms p)=qab ms p*qar γ (qg (fP dW.outs b.steps b.steps.length) p)+qab ms p*qar γ (qg (fP dW.ins b.steps b.steps.length) p)* -1:= λp hp=>by
   unfold qbQ mh tq qO;dsimp only;obtain⟨st,hs1,hs2⟩:=List.mem_flatMap.1 (hall p hp);obtain⟨j,hj,rfl⟩:=List.mem_iff_getElem.1 hs1;have h3:=qaR (f:=dW.outs) (p:=(p:Int)) b.steps.length (Nat.le_refl _) ⟨j,_,hj,List.getElem?_eq_getElem hj,hs2⟩;cases e1:qg (fP dW.outs b.steps b.steps.length) (p:Int)with
   |none=>exact absurd e1 h3
   |some i=>
    obtain⟨i, -,rfl⟩:=qan _ (Nat.le_refl _) e1;cases e2:qg (fP dW.ins b.steps b.steps.length) (p:Int)with
    |none=>
     simp[qar,hγ,hN]
    |some u=>
     obtain⟨u, -,rfl⟩:=qan _ (Nat.le_refl _) e2;simp only[qar,hγ,Option.getD_some,Int.toNat_natCast];rw[Int.mul_assoc, <-Int.mul_add];congr 1;omega
  rw[qaU,qa8 e,qaC,qb5];omega
 have hs:=qaT (hand:=hand) (ls:=ls) (gs:=gs) (s:=s) b.steps.length (Nat.le_refl _);unfold qcr;rw[qaA,qaA,hp,k1,k2,hs]
 have hz:∀k,k<=b.steps.length->qad (λi=>qa1 ms (b.steps.getD i qa6).outs*γ i) k-qad (λi=>qa1 ms (b.steps.getD i qa6).ins*γ i) k+qad (λi=>gs.getD i 0*((bit s b.steps.length:Int)-bit s i)+ls.getD i 0*((bit s i:Int)-bit s (if(b.steps.getD i qa6).hand=hand then b.steps.length+1 else b.steps.length))) k=qa0 b ls hand k*((bit s b.steps.length:Int)-bit s (b.steps.length+1)):=by
  intro k
  induction k with
  |zero=>intro _;simp[qad,qa0]
  |succ k ih=>
   intro hk;have ih:=ih (by omega);obtain⟨-, -, -, -,hb⟩:=hd.bal k b.steps[k] (by omega) (List.getElem?_eq_getElem (by omega));have hg:b.steps.getD k qa6=b.steps[k]:=by rw[List.getD_eq_getElem?_getD,List.getElem?_eq_getElem (by omega)];rfl
   have e1:qa0 b ls hand (k+1)=qa0 b ls hand k+(if(b.steps.getD k qa6).hand=hand then ls.getD k 0 else 0):=rfl;have e2:∀f:Nat->Int,qad f (k+1)=qad f k+f k:= λ_=>rfl
   rw[e1,e2,e2,e2,Int.add_mul, <-ih,hg]
   have hx:qa1 ms b.steps[k].outs*γ k-qa1 ms b.steps[k].ins*γ k+(gs.getD k 0*((bit s b.steps.length:Int)-bit s k)+ls.getD k 0*((bit s k:Int)-bit s (if b.steps[k].hand=hand then b.steps.length+1 else b.steps.length)))=(if b.steps[k].hand=hand then ls.getD k 0 else 0)*((bit s b.steps.length:Int)-bit s (b.steps.length+1)):=by
    have e3:γ k=(bit s k:Int)-bit s b.steps.length:=by rw[hγ,hN]
    rw[e3,qcH hb];split
    .rfl
    .rw[Int.sub_self,Int.mul_zero,Int.zero_mul]
   omega
 have h1:=hz _ (Nat.le_refl _);have h1':qad (λi=>qa1 ms (b.steps.getD i ⟨0,[],[],0,0,0,0⟩).outs*γ i) b.steps.length-qad (λi=>qa1 ms (b.steps.getD i ⟨0,[],[],0,0,0,0⟩).ins*γ i) b.steps.length+qad (λi=>gs.getD i 0*((bit s b.steps.length:Int)-bit s i)+ls.getD i 0*((bit s i:Int)-bit s (if(b.steps.getD i qa6).hand=hand then b.steps.length+1 else b.steps.length))) b.steps.length=qa0 b ls hand b.steps.length*((bit s b.steps.length:Int)-bit s (b.steps.length+1)):=h1;rw[h1']
 by_cases h0:0<=hand
 .rw[if_pos h0];simp only[qb4,qbQ,List.map_cons,List.map_nil,List.sum_cons,List.sum_nil,Int.mul_sub];omega
 .rw[if_neg h0]
  have h9:∀k,k<=b.steps.length->qa0 b ls hand k=0:=by
   intro k
   induction k with
   |zero=>intro _;rfl
   |succ k ih=>
    intro hk;have e1:qa0 b ls hand (k+1)=qa0 b ls hand k+(if(b.steps.getD k qa6).hand=hand then ls.getD k 0 else 0):=rfl;have hg:b.steps.getD k qa6=b.steps[k]:=by rw[List.getD_eq_getElem?_getD,List.getElem?_eq_getElem (by omega)];rfl
    have hh2:=(vE (CX (EP hc).2.2.1).2.1 _ (List.getElem_mem (show k<b.steps.length by omega))).1
    have hh3:0<=b.steps[k].hand:=by
     simp only[kH,Bool.and_eq_true,decide_eq_true_eq]at hh2;omega
    rw[e1,ih (by omega),hg,if_neg (show¬b.steps[k].hand=hand by omega)];rfl
  rw[h9 _ (Nat.le_refl _)];simp[qb4]
def qak(ms:List Int)(l:List jD):Prop:=∀t∈l,t.lo<=qab ms t.pile∧qab ms t.pile<=t.hi
theorem qdS{ms:List Int}(hr:∀x∈ms,0<=x∧x<=1000000){p:Int}{l:List jD}(h:qak ms l):(je l p).1<=qab ms p∧qab ms p<=(je l p).2:=by
 have key:∀(l:List jD)(x:Int×Int),qak ms l->x.1<=qab ms p->qab ms p<=x.2->(l.foldl (PU p) x).1<=qab ms p∧qab ms p<=(l.foldl (PU p) x).2:=by
  intro l
  induction l with
  |nil=>intro x _ h1 h2;exact⟨h1,h2⟩
  |cons t r ih=>
   intro x hf h1 h2;rw[List.foldl_cons];obtain⟨a1,a2⟩:=hf t List.mem_cons_self;refine ih _ (λu hu=>hf u (List.mem_cons_of_mem _ hu)) ?_ ?_<;>unfold PU<;>split
   .rename_i e;subst e;dsimp only;omega
   .exact h1
   .rename_i e;subst e;dsimp only;omega
   .exact h2
 have h0:=qb2 hr p;exact key l (0,1000000) h h0.1 h0.2
theorem qaV{b:dO}{hand:Int}{ls gs:List Int}{p:eX×Int}:∀k,k<=b.steps.length->p∈qae b hand ls gs k->∃j s,j<k∧b.steps[j]?=some s∧((p.1.lo=s.g0∧p.1.hi=s.g1∧p.2=gs.getD j 0)∨(p.1.lo=s.l0∧p.1.hi=s.l1∧p.2=ls.getD j 0))
 |0,_,h=>by cases h
 |k+1,hk,h=>by
  unfold qae at h;rcases List.mem_append.1 h with h|h
  .obtain⟨j,s,h1,h2⟩:=qaV k (by omega) h;exact⟨j,s,by omega,h2⟩
  .rw[List.getElem?_eq_getElem (show k<b.steps.length by omega)]at h;refine⟨k,b.steps[k],by omega,List.getElem?_eq_getElem (by omega),?_⟩;simp only[qcG,List.mem_cons,List.not_mem_nil,or_false]at h;rcases h with rfl|rfl
   .exact .inl ⟨rfl,rfl,rfl⟩
   .exact .inr ⟨rfl,rfl,rfl⟩
theorem qau{b:dO}(hc:fG b=0){ms ls gs:List Int}(hd:Done b b.steps.length ms ls gs)(hand:Int):∀k,k<=b.steps.length->0<=qa0 b ls hand k∧qa0 b ls hand k<=1000000*k
 |0,_=>by simp[qa0,qad]
 |k+1,hk=>by
  have ih:=qau hc hd hand k (by omega);obtain⟨-, -,b1,b2, -⟩:=hd.bal k b.steps[k] (by omega) (List.getElem?_eq_getElem (by omega));have S:=(steady hc (List.getElem?_eq_getElem (show k<b.steps.length by omega))).hl;have e1:qa0 b ls hand (k+1)=qa0 b ls hand k+(if(b.steps.getD k qa6).hand=hand then ls.getD k 0 else 0):=rfl;rw[e1];split<;>omega
theorem qcg{b:dO}(hc:fG b=0){ms ls gs:List Int}(hd:Done b b.steps.length ms ls gs)(hf:qak ms b.dA)(hn:b.steps.length<=8)(hand:Int):qcF (qcr b hand ms ls gs):= λp hp=>by
 unfold qcr at hp;rcases List.mem_append.1 hp with hp|hp
 .rcases List.mem_append.1 hp with hp|hp
  .obtain⟨q,hq,rfl⟩:=List.mem_map.1 hp;exact qdS hd.rg hf
  .obtain⟨j,s,hj,hs,h⟩:=qaV _ (Nat.le_refl _) hp;obtain⟨a1,a2,a3,a4, -⟩:=hd.bal j s hj hs;rcases h with⟨e1,e2,e3⟩|⟨e1,e2,e3⟩<;>rw[e1,e2,e3]<;>exact⟨by assumption,by assumption⟩
 .split at hp
  .obtain rfl:=List.mem_singleton.1 hp;have :=qau hc hd hand b.steps.length (Nat.le_refl _);dsimp only;omega
  .cases hp
section
variable {b:dO} {ms ls gs:List Int}
theorem qb6(hc:fG b=0)(hd:Done b b.steps.length ms ls gs)(hf:qak ms b.dA)(hn:b.steps.length<=8){hand:Int}(hh: -1<=hand):gN (fA b hand) (dZ b hand)=true:=by
 rw[<-qbB b hand ms ls gs];exact qbH (qcg hc hd hf hn hand) λs=>qbC hc hd hh s
theorem qbp(hc:fG b=0)(hd:Done b b.steps.length ms ls gs)(hf:qak ms b.dA)(hn:b.steps.length<=8){hand:Int}(hh: -1<=hand){k:Nat}{p:eX×Int}(hk:(qcr b hand ms ls gs)[k]?=some p):lO9 (mG (fA b hand) (dZ b hand)) k<=p.2∧p.2<=hI9 (mG (fA b hand) (dZ b hand)) k:=by
 have :=qbI (nd:=dZ b hand) (qcg hc hd hf hn hand) (λs=>qbC hc hd hh s) hk
 rwa [qbB]at this
theorem qai{hand:Int}:∀k,k<=b.steps.length->(qae b hand ls gs k).length=2*k
 |0,_=>rfl
 |k+1,hk=>by
  unfold qae;rw[List.length_append,qai k (by omega),List.getElem?_eq_getElem (show k<b.steps.length by omega)];simp[qcG];omega
theorem qbd{hand:Int}{j:Nat}:∀k,k<=b.steps.length->j<k->∃x,(qae b hand ls gs k)[2*j+1]?=some (x,ls.getD j 0)
 |0,_,h=>by omega
 |k+1,hk,h=>by
  unfold qae;have hl:=qai (b:=b) (ls:=ls) (gs:=gs) (hand:=hand) k (by omega)
  by_cases e:j=k
  .subst e;rw[List.getElem?_append_right (by omega),hl,show 2*j+1-2*j=1 by omega,List.getElem?_eq_getElem (show j<b.steps.length by omega)];exact⟨_,rfl⟩
  .rw[List.getElem?_append_left (by omega)];exact qbd k (by omega) (by omega)
theorem qch(hc:fG b=0)(hd:Done b b.steps.length ms ls gs)(hf:qak ms b.dA)(hn:b.steps.length<=8){k:Nat}(hk:k<b.dz.length):lO9 (p8 b) k<=qab ms k∧qab ms k<=hI9 (p8 b) k:=by
 refine qbp hc hd hf hn (hand:= -1) (by omega) (p:=(mh b k,qab ms k)) ?_
 unfold qcr;rw[List.getElem?_append_left (by simp;omega),List.getElem?_append_left (by simp;omega)];simp[hk]
theorem qci(hc:fG b=0)(hd:Done b b.steps.length ms ls gs)(hf:qak ms b.dA)(hn:b.steps.length<=8){k:Nat}(hk:k<b.steps.length):lO9 (yY b) k<=ls.getD k 0∧ls.getD k 0<=hI9 (yY b) k:=by
 obtain⟨h1,h2⟩:=qba (p8 b) b.dz.length hk;rw[h1,h2];obtain⟨x,hx⟩:=qbd (b:=b) (hand:= -1) (ls:=ls) (gs:=gs) b.steps.length (Nat.le_refl _) hk;have hl:=qai (b:=b) (ls:=ls) (gs:=gs) (hand:= -1) b.steps.length (Nat.le_refl _);refine qbp hc hd hf hn (hand:= -1) (by omega) (p:=(x,ls.getD k 0)) ?_
 unfold qcr;rw[List.getElem?_append_left (by simp[hl];omega),List.getElem?_append_right (by simp;omega)];simp only[List.length_map,List.length_range];rw[show b.dz.length+2*k+1-b.dz.length=2*k+1 by omega];exact hx
theorem qcj(hc:fG b=0)(hd:Done b b.steps.length ms ls gs)(hf:qak ms b.dA)(hn:b.steps.length<=8)(h:Nat):lO9 (zS b h) (b.dz.length+2*b.steps.length)<=qa0 b ls h b.steps.length∧qa0 b ls h b.steps.length<=hI9 (zS b h) (b.dz.length+2*b.steps.length):=by
 have hl:=qai (b:=b) (ls:=ls) (gs:=gs) (hand:=h) b.steps.length (Nat.le_refl _);refine qbp hc hd hf hn (hand:=h) (by omega) (p:=((⟨0,8000000,b.steps.length+1,b.steps.length⟩:eX),qa0 b ls h b.steps.length)) ?_
 unfold qcr;rw[if_pos (Int.natCast_nonneg h),List.getElem?_append_right (by simp[hl])];simp[hl]
theorem qaW{lm:Int}{h:Nat}:∀n,h<n->(oG b lm n)[h]?=some (nU (lO9 (zS b h) (b.dz.length+2*b.steps.length)) (hI9 (zS b h) (b.dz.length+2*b.steps.length)) lm)
 |n+1,hn=>by
  unfold oG;have hl:=uV b lm n
  by_cases e:h=n
  .subst e;rw[List.getElem?_append_right (by omega),hl,Nat.sub_self];rfl
  .rw[List.getElem?_append_left (by omega)];exact qaW n (by omega)
theorem qbJ(hc:fG b=0)(hd:Done b b.steps.length ms ls gs)(hf:qak ms b.dA)(hn:b.steps.length<=8){lm:Int}{h n:Nat}(hh:h<n){j:Int}(hj:(oG b lm n)[h]?=some j):(j=1->¬qa0 b ls h b.steps.length<=lm)∧(j=2->¬lm<qa0 b ls h b.steps.length):=by
 rw[qaW n hh]at hj;cases hj;obtain⟨h1,h2⟩:=qcj hc hd hf hn h;unfold nU;split
 .exact⟨λ_=>by omega, λe=>by omega⟩
 .split
  .exact⟨λe=>by omega, λ_=>by omega⟩
  .exact⟨λe=>by omega, λe=>by omega⟩
end
end Go.Proofs
end
