/- Part 4. -/
import Derived.Test.YtmhmpoeoapkbaaaGreatH28
import Derived.Test.YtmhmpoeoapkbaaaGreatH30
import Derived.Test.YtmhmpoeoapkbaaaGreatS01
import Derived.Test.YtmhmpoeoapkbaaaGreatS03
import Derived.BigRegion
import Derived.BigQuiet
import Derived.Deep.DeepMust
import Derived.Test.YtmhmpoeoapkbaaaGreatS02
set_option maxRecDepth 100000
set_option maxHeartbeats 0
set_option linter.all false
section
namespace Go.Proofs
open Go Go.RowKit Go.Maps Go.Proofs.Tryz
section
variable [Lo.St]
theorem qbe{ss:List eX}{nd:Nat}:gN ss nd=true↔iQ ss=false∧∀s,s<2^ nd->gM ss s<=0:=by
 unfold gN sV;rw[Bool.and_eq_true,Bool.not_eq_true',List.all_eq_true];exact⟨λh=>⟨h.1, λs hs=>by have :=h.2 s (List.mem_range.2 hs);simpa using this⟩, λh=>⟨h.1, λs hs=>by have :=h.2 s (List.mem_range.1 hs);simpa using this⟩⟩
theorem qaX{ss:List eX}{s:Nat}(h:∀x∈ss,kJ s x.fr x.to=0):gM ss s=0:=by
 unfold gM
 have:∀(l:List eX),(∀x∈l,kJ s x.fr x.to=0)->l.foldl (OJ s) 0=0:=by
  intro l
  induction l with
  |nil=>intro _;rfl
  |cons x l ih=>
   intro hl;have h0:OJ s 0 x=0:=by unfold OJ;rw[hl x (by simp)];simp
   rw[List.foldl_cons,h0];exact ih λy hy=>hl y (by simp[hy])
 exact this ss h
theorem qbD{nd i:Nat}(h:i<nd):bit (2^ nd-1) i=1:=by
 unfold bit;have :=Nat.testBit_two_pow_sub_one nd i;rw[Nat.testBit_eq_decide_div_mod_eq]at this;simpa[h]using this
theorem qbf{s f t:Nat}(h:bit s f=bit s t):kJ s f t=0:=by
 unfold kJ;rw[h];simp
def Within(ss:List eX)(nd:Nat):Prop:=∀x∈ss,x.fr<nd∧x.to<nd
theorem qaw{ss:List eX}{n:Nat}(hw:Within ss (n+1)):gN ss (n+1)=false↔∃s m,s<2^ n∧gP ss (n+1) s m=true:=by
 have hp:(2:Nat)^ (n+1)=2*2^ n:=by rw[Nat.pow_succ];omega
 have h1:0<2^ n:=Nat.pow_pos (by decide);constructor
 .intro h;cases hc:iQ ss with
  |true=>exact⟨0,false,h1,by unfold gP;simp[hc]⟩
  |false=>
   have:∃t,t<2^ (n+1)∧0<gM ss t:=by
    apply Classical.byContradiction;intro hx
    have:gN ss (n+1)=true:=qbe.2 ⟨hc, λs hs=>by
     apply Classical.byContradiction;intro hy;exact hx ⟨s,hs,by omega⟩⟩
    rw[h]at this;cases this
   obtain⟨t,ht,hs⟩:=this
   have ht0:t≠0:= λe=>by
    rw[e,qaX λx _=>qbf (by simp[bit])]at hs;omega
   have htf:t≠2^ (n+1)-1:= λe=>by
    rw[e,qaX λx hx=>qbf (by rw[qbD (hw x hx).1,qbD (hw x hx).2])]at hs;omega
   by_cases hlt:t<2^ n
   .exact⟨t,false,hlt,by unfold gP;rw[if_neg ht0];simpa using hs⟩
   .refine⟨2^ (n+1)-1-t,true,by omega,?_⟩;unfold gP;rw[if_neg (by omega),if_pos rfl,show 2^ (n+1)-1-(2^ (n+1)-1-t)=t by omega];simpa using hs
 .rintro⟨s,m,hs,h⟩;cases hh:gN ss (n+1)with
  |false=>rfl
  |true=>
   exfalso;obtain⟨hc,hf⟩:=qbe.1 hh;unfold gP at h;split at h
   .rw[hc]at h;simp at h
   .split at h
    .have :=hf (2^ (n+1)-1-s) (by omega);have h2:=of_decide_eq_true h;omega
    .have :=hf s (by omega);have h2:=of_decide_eq_true h;omega
theorem qaI{b:dO}(hc:fG b=0):Within (fA b (-1)) (b.steps.length+1):=by
 intro x hx;unfold fA at hx;rw[if_neg (by omega),List.append_nil]at hx;rcases List.mem_append.1 hx with hx|hx
 .obtain⟨p,_,rfl⟩:=List.mem_map.1 hx;have h1:=MM b.steps p;have h2:=RF b.steps p;refine⟨?_,?_⟩
  .show(tq b.steps p).toNat<_;omega
  .show((qO b.steps p).getD b.steps.length).toNat<_;omega
 .have:∀k,∀x∈fq b (-1) k,x.fr<b.steps.length+1∧x.to<b.steps.length+1:=by
   intro k
   induction k with
   |zero=>intro x h;simp[fq]at h
   |succ k ih=>
    intro x h;unfold fq at h;rcases List.mem_append.1 h with h|h
    .exact ih x h
    .cases e:b.steps[k]? with
     |none=>rw[e]at h;simp at h
     |some s=>
      rw[e]at h;have hk:=(List.getElem?_eq_some_iff.1 e).1;simp only[nT,List.mem_cons,List.not_mem_nil,or_false]at h;rcases h with rfl|rfl
      .exact⟨by dsimp only;omega,by dsimp only;omega⟩
      .by_cases hh:s.hand= -1
       .have hb:=(vE (CX (EP hc).2.2.1).2.1 s (List.mem_of_getElem? e)).1;simp only[kH,Bool.and_eq_true,decide_eq_true_eq]at hb;omega
       .exact⟨by dsimp only;omega,by dsimp only;rw[if_neg hh];omega⟩
  exact this _ x hx
theorem qaJ{ss:List eX}{n:Nat}{x:List Int×Bool}:x∈fU ss n (iI ss n false).length (iI ss n true).length↔∃s,s<2^ n∧gP ss (n+1) s x.2=true∧x.1=Bi (kK s):=by
 have hm:∀m s,s∈iI ss n m↔s<2^ n∧gP ss (n+1) s m=true:= λm s=>by unfold iI;simp
 unfold fU;rw[List.take_length,List.take_length,List.mem_append];obtain⟨l,m⟩:=x;constructor
 .rintro(h|h)<;>obtain⟨s,hs,e⟩:=List.mem_map.1 h<;>cases e<;>obtain⟨h1,h2⟩:=(hm _ _).1 hs
  .exact⟨s,h1,h2,rfl⟩
  .exact⟨s,h1,h2,rfl⟩
 .rintro⟨s,h1,h2,h3⟩;dsimp only at h2 h3;subst h3;cases m with
  |false=>exact .inl (List.mem_map.2 ⟨s,(hm _ _).2 ⟨h1,h2⟩,rfl⟩)
  |true=>exact .inr (List.mem_map.2 ⟨s,(hm _ _).2 ⟨h1,h2⟩,rfl⟩)
structure qck(b:dO)(st:List Int)(eO found:Bool):Prop where
 no:found=false->st= []∧eO=false∧qR b=true
 yes:found=true->qR b=false∧∃s,s<2^ b.steps.length∧st=Bi (kK s)∧gP (fA b (-1)) (b.steps.length+1) s eO=true
 best:∀s m,s<2^ b.steps.length->gP (fA b (-1)) (b.steps.length+1) s m=true->found=true∧st.length<=(kK s).length
theorem qbK{b:dO}{st:List Int}{eO found:Bool}(hc:fG b=0)(h:lq (fU (fA b (-1)) b.steps.length (iI (fA b (-1)) b.steps.length false).length (iI (fA b (-1)) b.steps.length true).length) st eO found):qck b st eO found:=by
 have hn:dZ b (-1)=b.steps.length+1:=if_neg (by omega);have hh:qR b=false↔∃s m,s<2^ b.steps.length∧gP (fA b (-1)) (b.steps.length+1) s m=true:=by unfold qR;rw[hn];exact qaw (qaI hc)
 rcases h with⟨rfl,hi,rfl,rfl⟩|⟨rfl,hi,hb⟩
 .have none:∀s m,s<2^ b.steps.length->¬gP (fA b (-1)) (b.steps.length+1) s m=true:= λs m h1 h2=>by
   have :=(qaJ (x:=(Bi (kK s),m))).2 ⟨s,h1,h2,rfl⟩;rw[hi]at this;cases this
  refine⟨λ_=>⟨rfl,rfl,?_⟩, λh=>(by cases h), λs m h1 h2=>absurd h2 (none s m h1)⟩;cases hx:qR b with
  |true=>rfl
  |false=>
   obtain⟨s,m,h1,h2⟩:=hh.1 hx;exact absurd h2 (none s m h1)
 .obtain⟨s,h1,h2,h3⟩:=qaJ.1 hi;dsimp only at h2 h3;refine⟨λh=>(by cases h), λ_=>⟨hh.2 ⟨s,eO,h1,h2⟩,s,h1,h3,h2⟩, λs' m h4 h5=>⟨rfl,?_⟩⟩;have :=hb _ ((qaJ (x:=(Bi (kK s'),m))).2 ⟨s',h4,h5,rfl⟩);apply Classical.byContradiction;intro hx;refine this (.inl ?_);show(Bi (kK s')).length<st.length;unfold Bi;rw[List.length_map];omega
end
end Go.Proofs
end
section
namespace Go.Proofs
open Go Go.RowKit Go.Maps Go.Proofs.Tryz
theorem qag{w:World}{B B' size n:Nat}{A:Option Addr}{f:Nat->Nat->Value}(h:Rd w B size A n f)(hB:B<=B'):Rd w B' size A n f:= λhn=>by
 obtain⟨b,o,e,h1,h2⟩:=h hn;exact⟨b,o,e,Nat.lt_of_lt_of_le h1 hB,h2⟩
variable [Lo.St]
theorem qb7{w:World}{B B':Nat}{b:dO}{v:gJ}(h:fC w B b v)(hB:B<=B'):fC w B' b v:=
 ⟨qag h.dJ hB,qag h.dz hB,qag h.steps hB, λi s e=>qag (h.ins i s e) hB, λi s e=>qag (h.outs i s e) hB,qag h.dA hB,h.lh,h.lp,h.ls,h.lc⟩
end Go.Proofs
end
section
namespace Go.Proofs
open Go Go.RowKit Go.Maps Go.Proofs.Tryz
theorem qbq{w w':World}{x:Nat}(h:w'.heap[x]?=w.heap[x]?)(o:Nat):w'.cell? ⟨x,o,none⟩=w.cell? ⟨x,o,none⟩:=by
 unfold World.cell?;simp only[h]
theorem qa7{T:Array Value}{i:Nat}{v:Value}(h:T[i]?=some v):T.getD i undef=v:=by
 rw[Array.getD_eq_getD_getElem?,h];rfl
theorem qcI{P:Program}{ops:Array Oper}{Q:Exit->Act->World->Prop}{a:Act}{w:World}{k n:Nat}(hn:(ops.toList.drop k).length=n)(h:wpList P ops Q (ops.toList.drop k) a w):wpOps P ops Q (List.range' k n) a w:=by
 rw[<-hn,wpOps_eq_wpList (ops.toList.drop k) k (λj=>by simp)];exact h
variable [Lo.St]
end Go.Proofs
end
section
namespace Go.Proofs
open Go Go.RowKit Go.Maps
variable [Lo.St]
def qa2(b:dO)(sc:List jD):dO:={ b with dA:=sc }
theorem qaY{np:Nat}:∀{l:List jD},(∀t∈l,kH t.pile 0 ((np:Int)-1)=true∧eT t.lo t.hi 0 1000000=true)->ku np l=0
 | [],_=>rfl
 |t::r,h=>by
  obtain⟨h1,h2⟩:=h t List.mem_cons_self;unfold ku;rw[if_neg (by rw[h1];simp),if_neg (by rw[h2];simp)];exact qaY λu hu=>h u (List.mem_cons_of_mem _ hu)
section
variable {b:dO} {ms ls gs:List Int} {sc:List jD}
theorem qao(h:fG b=0)(hl:sc.length<=b.dA.length)(hs:qbG b ms sc):fG (qa2 b sc)=0:=by
 obtain⟨h1,h2,h3,h4,h5⟩:=EP h;unfold fG;rw[if_neg (by show¬dP b.dJ 4≠0;rw[h1];simp),if_neg (by show¬dP b.dz 12≠0;rw[h2];simp),if_neg (by show¬fB b≠0;rw[h3];simp)];rw[if_neg (by show¬10<sc.length;omega)];refine qaY λt ht=>?_
 obtain⟨i,hi,rfl⟩:=List.mem_iff_getElem.1 ht;obtain⟨s,e,f1,f2,f3,f4,f5⟩:=hs i _ (List.getElem?_eq_getElem hi);obtain⟨⟨a1,a2⟩,a3⟩:=CW h5 s (List.mem_of_getElem? e);refine⟨?_,?_⟩
 .rw[f1];simp only[kH,Bool.and_eq_true,decide_eq_true_eq];exact⟨a1,a2⟩
 .simp only[eT,Bool.and_eq_true,decide_eq_true_eq];omega
theorem qaZ(h:b.small)(hl:sc.length<=b.dA.length):(qa2 b sc).small:=⟨h.dJ,h.dz,h.steps,by show sc.length<=64;have :=h.dA;omega,h.ins,h.outs⟩
theorem qbE(hs:qbG b ms sc):qak ms (qa2 b sc).dA:= λt ht=>by
 obtain⟨i,hi,rfl⟩:=List.mem_iff_getElem.1 (show t∈sc from ht);obtain⟨s,e,f1,f2,f3,f4,f5⟩:=hs i _ (List.getElem?_eq_getElem hi);rw[f1];exact⟨f3,f4⟩
theorem qbg(hd:Done b b.steps.length ms ls gs):Done (qa2 b sc) (qa2 b sc).steps.length ms ls gs:=⟨hd.lm,hd.ll,hd.lg,hd.rg,hd.bal⟩
theorem qdT(hs:qbG b ms sc)(k:Nat):qbG b ms (sc.take k):= λi t ht=>by
 by_cases h:i<k
 .rw[List.getElem?_take_of_lt h]at ht;exact hs i t ht
 .rw[List.getElem?_take_eq_none (by omega)]at ht;cases ht
theorem qbr(hc:fG b=0)(hsm:b.small)(hd:Done b b.steps.length ms ls gs)(hl:sc.length<=b.dA.length)(hs:qbG b ms sc){hand:Int}(hh: -1<=hand):gN (fA (qa2 b sc) hand) (dZ (qa2 b sc) hand)=true:=
 qb6 (qao hc hl hs) (qbg hd) (qbE hs) (lM (qaZ hsm hl) (qao hc hl hs)).n8 hh
theorem qbL(hc:fG b=0)(hsm:b.small)(hd:Done b b.steps.length ms ls gs)(hl:sc.length<=b.dA.length)(hs:qbG b ms sc):Gv (qa2 b sc)= -1:=by
 have key:∀f k,rV (qa2 b sc) f k= -1:=by
  intro f
  induction f with
  |zero=>intro k;rfl
  |succ f ih=>
   intro k;have h:qR (Be (qa2 b sc) k)=true:=qbr (sc:=sc.take k) hc hsm hd (by rw[List.length_take];omega) (qdT hs k) (by omega);unfold rV;rw[if_neg (by rw[h];simp)];exact ih _
 exact key _ _
theorem qbM(hc:fG b=0)(h:qR b=true){st:List Int}{eO found:Bool}(hp:qck b st eO found):found=false∧st= []:=by
 cases found with
 |false=>exact⟨rfl,(hp.no rfl).1⟩
 |true=>
  obtain⟨-,s,hs, -,h2⟩:=hp.yes rfl;have :=(qaw (qaI hc)).2 ⟨s,eO,hs,h2⟩;have e:gN (fA b (-1)) (b.steps.length+1)=true:=h;rw[this]at e;cases e
structure Real(o:dO)(ms ls:List Int):Prop where
 check:fG o=0
 small:o.small
 holds:qR o=true
 dJ:∀h:Nat,h<o.dJ.length->gN (fA o h) (dZ o h)=true
 lm:ms.length=o.dz.length
 ll:ls.length=o.steps.length
 n8:o.steps.length<=8
 qek:∀k,k<o.dz.length->lO9 (p8 o) k<=qab ms k∧qab ms k<=hI9 (p8 o) k
 loss:∀k,k<o.steps.length->lO9 (yY o) k<=ls.getD k 0∧ls.getD k 0<=hI9 (yY o) k
 judge:∀(lm:Int)(h:Nat)(j:Int),(zT o lm)[h]?=some j->(j=1->¬qa0 o ls h o.steps.length<=lm)∧(j=2->¬lm<qa0 o ls h o.steps.length)
 first:Gv o= -1
 sums:∀(h:Int)k,k<=o.steps.length->0<=qa0 o ls h k∧qa0 o ls h k<=1000000*k
theorem qcl(hc:fG b=0)(hsm:b.small)(hd:Done b b.steps.length ms ls gs)(hl:sc.length=b.dA.length)(hs:qbG b ms sc):Real (qa2 b sc) ms ls:=by
 have hc':=qao hc (Nat.le_of_eq hl) hs;have qea:=qaZ (sc:=sc) hsm (Nat.le_of_eq hl);have hd':=qbg (sc:=sc) hd;have hf:=qbE hs;have hn:=(lM qea hc').n8
 exact⟨hc',qea,qb6 hc' hd' hf hn (by omega), λh _=>qb6 hc' hd' hf hn (by omega),hd'.lm,hd'.ll,hn, λk hk=>qch hc' hd' hf hn hk, λk hk=>qci hc' hd' hf hn hk,
  λlm h j hj=>qbJ hc' hd' hf hn (by have :=(List.getElem?_eq_some_iff.1 hj).1;rw[uV]at this;exact this) hj,qbL hc hsm hd (Nat.le_of_eq hl) hs, λh k hk=>qau hc' hd' h k hk⟩
end
end Go.Proofs
end
section
namespace Go.Proofs
open Go Go.RowKit Go.Maps Go.Proofs.Tryz
noncomputable def Tryz.qax:Code:=Tryz.f3.body.getD .skip
noncomputable def Tryz.qcJ:Array Oper:=((gG 11 Tryz.qax).getD (#[],.skip)).1
noncomputable def Tryz.νU:Code:=((gG 11 Tryz.qax).getD (#[],.skip)).2
noncomputable def Tryz.ζI:Code:=((gG 3 Tryz.qax).getD (#[],.skip)).2
theorem qa9[Lo.St]{w w':World}{size n:Nat}{A:Option Addr}{f:Nat->Nat->Value}(h:Rd w w.heap.size size A n f)(hb:Below w.heap.size w w'):Rd w' w'.heap.size size A n f:=qag (h.keep λb o hx=>dH hb b o hx) hb.size
variable [Lo.St]
structure T5(B:Nat)(w0:World)(b:dO)(v:gJ)(lm:Nat)(o:dO)(a:Act)(w:World):Prop where
 d:a.defers= []
 sz:a.tmps.size=237
 real:∃ms ls ψH cm ωb cl A1 c1 A2 c2 A3 c3,Real o ms ls∧a.tmps[7]?=some (.slice ψH o.dz.length cm)∧a.tmps[8]?=some (.slice ωb o.steps.length cl)∧a.tmps[11]?=some (.slice A1 o.dz.length c1)∧a.tmps[13]?=some (.slice A2 o.steps.length c2)∧a.tmps[15]?=some (.slice A3 o.dJ.length c3)∧
  xJ w w.heap.size ψH ms∧xJ w w.heap.size ωb ls∧jR w A1 o.dz.length (p8 o)∧jR w A2 o.steps.length (yY o)∧xJ w w.heap.size A3 (zT o lm)
 e1:a.tmps[1]?=some (.int .u16 (lm:Int))
 e3:a.tmps[3]?=some (.pointer (some ⟨w0.heap.size,0,none⟩))
 e6:a.tmps[6]?=some (.bool false)
 e12:a.tmps[12]?=some (.int .i64 0)
 e14:a.tmps[14]?=some (.int .i64 0)
 e16:a.tmps[16]?=some (.int .i64 0)
 e17:a.tmps[17]?=some (.int .i64 (-1))
 e18:a.tmps[18]?=some (.int .i64 0)
 bel:Below w0.heap.size w0 w
 box:w.heap[w0.heap.size]?=some (.cells #[.slice v.ah b.dJ.length v.ch,.slice v.ap b.dz.length v.cp,.slice v.iT b.steps.length v.cs,.slice v.ac b.dA.length v.cc] 26)
 made:∃sc A c bx,o=qa2 b sc∧a.tmps[10]?=some (.pointer (some ⟨bx,0,none⟩))∧fC w w.heap.size o { v with ac:=A,cc:=c }∧w.heap[bx]?=some (.cells #[.slice v.ah b.dJ.length v.ch,.slice v.ap b.dz.length v.cp,.slice v.iT b.steps.length v.cs,.slice A sc.length c] 26)∧Par.dU w (.slice A sc.length c)∧∀a,A=some a->w0.heap.size<=a.block∧a.block<w.heap.size
structure N5(a:Act)(w:World):Prop where
 d:a.defers= []
 sz:a.tmps.size=237
 e9:a.tmps[9]?=some (.bool false)
theorem Lo.qcK{w:World}{B:Nat}{b:dO}{v:gJ}{x:Value}{ms ls:List Int}(hR:Real b ms ls)(hx:x=dY b v)(hb:fC w B b v)(hB:B<=w.heap.size):
 Calls Lo.prog 9 #[x] w λe w'=>Below w.heap.size w w'∧∃A cap,e=.returned (.tuple #[.slice A b.dz.length cap,.int .i64 0])∧jR w' A b.dz.length (p8 b):=by
 refine(Lo.K8 hx hb hB hR.small).mono λe w' h=>?_
 obtain⟨h1,h2⟩:=h;rw[if_neg (by rw[hR.check];simp),if_pos hR.holds]at h2;obtain⟨A,cap,e,h3,_⟩:=h2;exact⟨h1,A,cap,e,h3⟩
theorem Lo.qcL{w:World}{B:Nat}{b:dO}{v:gJ}{x:Value}{ms ls:List Int}(hR:Real b ms ls)(hx:x=dY b v)(hb:fC w B b v)(hB:B<=w.heap.size):
 Calls Lo.prog 10 #[x] w λe w'=>Below w.heap.size w w'∧∃A cap,e=.returned (.tuple #[.slice A b.steps.length cap,.int .i64 0])∧jR w' A b.steps.length (yY b):=by
 refine(Lo.K9 hx hb hB hR.small).mono λe w' h=>?_
 obtain⟨h1,h2⟩:=h;rw[if_neg (by rw[hR.check];simp),if_pos hR.holds]at h2;obtain⟨A,cap,e,h3,_⟩:=h2;exact⟨h1,A,cap,e,h3⟩
theorem Lo.qd5{w:World}{B:Nat}{b:dO}{v:gJ}{x:Value}{ms ls:List Int}(hR:Real b ms ls)(hx:x=dY b v)(hb:fC w B b v)(hB:B<=w.heap.size){lm:Nat}(hl:lm<65536):
 Calls Lo.prog 11 #[x,.int .i64 (lm:Int)] w λe w'=>Below w.heap.size w w'∧∃A cap,e=.returned (.tuple #[.slice A b.dJ.length cap,.int .i64 0])∧xJ w' w'.heap.size A (zT b lm):=by
 refine(Lo.O0 hx hb hB hR.small lm λ_ _=>hR.dJ).mono λe w' h=>?_
 obtain⟨h1,h2⟩:=h;rw[if_neg (by rw[hR.check];simp),if_neg (by simp[kH];omega),if_pos hR.holds]at h2;obtain⟨A,cap,e,h3,_⟩:=h2;exact⟨h1,A,cap,e,h3⟩
theorem Lo.qd6{w:World}{B:Nat}{b:dO}{v:gJ}{x:Value}{ms ls:List Int}(hR:Real b ms ls)(hx:x=dY b v)(hb:fC w B b v)(hB:B<=w.heap.size):
 Calls Lo.prog 12 #[x] w λe w'=>Below w.heap.size w w'∧e=.returned (.tuple #[.int .i64 (-1),.int .i64 0]):=by
 refine(Lo.O3 hx hb hB hR.small).mono λe w' h=>?_
 obtain⟨h1,h2⟩:=h;rw[if_neg (by rw[hR.check];simp),hR.first]at h2;exact⟨h1,h2⟩
theorem qd7{w w':World}{b:dO}{v:gJ}{sc:List jD}{A:Option Addr}{c:Nat}(h:fC w w.heap.size b v)(hb:Below w.heap.size w w')(hr:Rd w' w'.heap.size 3 A sc.length (vD sc))(hc:sc.length<=c):fC w' w'.heap.size (qa2 b sc) { v with ac:=A,cc:=c }:=by
 have k:=qb7 (h.keep λb o hx=>dH hb b o hx) hb.size;exact⟨k.dJ,k.dz,k.steps,k.ins,k.outs,hr,k.lh,k.lp,k.ls,hc⟩
theorem Lo.qcm{w:World}{B:Nat}{b:dO}{v:gJ}{lm cp:Nat}{A:Option Addr}{pk:List Int}{z ωP:Code}(hz:z=.seq (.region 11 Tryz.qcJ false) Tryz.νU)(hzn:ωP=Tryz.ζI)(hb:fC w B b v)(hB:B<=w.heap.size)(hbc:GG b v)(hg:Dz b=false)(hc:fG b=0)(hlim:lm<65536)(hp:RdU w B A pk)(hu:U16 pk):
 Par.qaf Lo.prog (Conc.base 3) [] [Par.stk] (AtQ 3 (T5 B w b v lm) N5 z ωP) Tryz.qax ⟨#[dY b v,.int .u16 (lm:Int),.slice A pk.length cp]++Array.replicate 234 undef,[]⟩ w:=by
 obtain⟨U,U2,U3,U4,U5,U6⟩:=Lo.facts;have C:=Lo.call Tryz.func4;have C2:=Lo.call Tryz.func5;have C4:=Lo.call Tryz.func7;have C5:=Lo.call Tryz.func8;have C6:=Lo.call Tryz.func9;have C7:=Lo.call Tryz.func10;have C8:=Lo.call Tryz.func11;have ψS:=Lo.call Tryz.func12;obtain⟨X,hX,sX,bX,hA,hC⟩:=bx9 hb hB;have hs:=Vz hg;have hn8:=(lM hs hc).n8;have hP:∀W,Below X.heap.size X W->RdU W B A pk:= λW hW=>hp.keep λd o h=>dH (bX.trans (hW.mono bX.size)) d o (by omega)
 have HC:=Lib.hid hC;have HA:=Lib.hid hA;have HX:=Lib.hid (And.intro hX bX);have HBC:=Lib.hid hbc;have HG:=Lib.hid (And.intro hg hc);have HZ:=Lib.hid (And.intro hz hzn);have HP:=Lib.hid (And.intro hP hu);clear hX bX hA hC hb hbc hg hc hz hzn hP hp hu;obtain⟨f0,f1,f2,f3⟩:=al8 (HC.out X (Below.refl _ _));unfold dY;simp only[Tryz.qax,Tryz.f3,Option.getD_some,Array.replicate_succ,Array.replicate_zero,List.push_toArray,List.append_toArray,List.nil_append,List.cons_append];refine Par.qaf.seq ?_
 go_wp2;have hy:=HX.out.1;unfold lN at hy;rw[hy];clear hy;refine Par.qaf.seq ?_
 go_wp2;refine(Lo.aa0 (b:=b) (v:=v) rfl (HA.out X (Below.refl _ _)) (by omega)).mono ?_
 rintro e w1⟨rfl,h1⟩;obtain⟨f0,f1,f2,f3⟩:=al8 (HC.out w1 h1);rw[HG.out.1];go_wp2;refine(Lo.YR (b:=b) (v:=v) rfl (HA.out w1 h1) (by have :=h1.size;omega) hs HBC.out).mono ?_
 rintro e w2⟨rfl,h2⟩;replace h2:=h1.trans (h2.mono h1.size);clear h1 f0 f1 f2 f3;obtain⟨f0,f1,f2,f3⟩:=al8 (HC.out w2 h2);rw[HG.out.2];have H2:=Lib.hid h2;clear h2;go_wp2;refine Par.qaf.seq ?_
 go_wp2;refine(Lo.qcd (b:=b) (v:=v) rfl (HA.out w2 H2.out) (by have :=H2.out.size;omega) hs HG.out.2 (HP.out.1 w2 H2.out) HP.out.2).mono ?_
 rintro e w3⟨h3,he⟩;have h3X:=H2.out.trans (h3.mono H2.out.size);clear f0 f1 f2 f3 h3;rcases he with rfl|⟨ms,ls,gs,ψH,cm,ωb,cl,rfl,hdn,hrm,hrl⟩
 .go_wp2;refine Par.qbt (HZ.out.2.trans (by kernel_rfl)) (.inr ⟨_,⟨rfl,rfl,rfl⟩,by rw[HZ.out.2]⟩)
 .have hW:=Lo.qbm (x:=dY b v) (cp:=cm) rfl (qb7 (HA.out w3 h3X) (show B<=w3.heap.size by have :=h3X.size;omega)) (Nat.le_refl _) hs HG.out.2 hdn.lm hdn.rg hrm;rw[hdn.lm]at hW;obtain⟨f0,f1,f2,f3⟩:=al8 (HC.out w3 h3X);have H3:=Lib.hid (And.intro h3X (And.intro hdn (And.intro hrm hrl)));have HW:=Lib.hid hW;clear h3X hdn hrm hrl hW;go_wp2;refine Par.qaf.seq ?_
  go_wp2;refine Par.qaf.seq ?_
  go_wp2;refine HW.out.mono ?_
  rintro e w4⟨h4,sc,As,cs,rfl,hl,hst,hcc,hrd,hpl,hlt⟩;have hR:=qcl HG.out.2 hs H3.out.2.1 hl hst;have hbk:=qd7 (b:=b) (v:=v) (qb7 (HA.out w3 H3.out.1) (show B<=w3.heap.size by have :=H3.out.1.size;omega)) h4 hrd hcc;obtain⟨Y,hY,sY,bY,hAY,hCY⟩:=bx9 hbk (Nat.le_refl _);have hY':w4.alloc (.cells #[.slice v.ah b.dJ.length v.ch,.slice v.ap b.dz.length v.cp,.slice v.iT b.steps.length v.cs,.slice As sc.length cs] 26)=Y:=hY;have hYC:∀W,Below Y.heap.size Y W->W.heap[w4.heap.size]?=some (.cells #[.slice v.ah b.dJ.length v.ch,.slice v.ap b.dz.length v.cp,.slice v.iT b.steps.length v.cs,.slice As sc.length cs] 26):=hCY
  have hbv:dY { b with dA:=sc } { v with ac:=As,cc:=cs }=.agg #[.slice v.ah b.dJ.length v.ch,.slice v.ap b.dz.length v.cp,.slice v.iT b.steps.length v.cs,.slice As sc.length cs]:=rfl;rw[hbv];have H4:=Lib.hid (And.intro h4 (And.intro hR (And.intro hpl (And.intro hlt bY))));have HYA:=Lib.hid hAY;have HYC:=Lib.hid hYC;clear h4 hR hpl hlt bY hAY hYC hCY hbk hrd hl hst hcc f0 f1 f2 f3 hY hbv;obtain⟨f0,f1,f2,f3⟩:=al8 (HYC.out Y (Below.refl _ _));go_wp2;clear hY';refine Par.qaf.seq ?_
  go_wp2;refine(Lo.qcK (b:=qa2 b sc) (v:={ v with ac:=As,cc:=cs }) H4.out.2.1 rfl (HYA.out Y (Below.refl _ _)) (by omega)).mono ?_
  rintro e w5⟨h5,A1,c1,rfl,r1⟩;clear f0 f1 f2 f3;obtain⟨f0,f1,f2,f3⟩:=al8 (HYC.out w5 h5);have H5:=Lib.hid (And.intro h5 r1);clear h5 r1;go_wp2;refine Par.qaf.seq ?_
  go_wp2;refine(Lo.qcL (b:=qa2 b sc) (v:={ v with ac:=As,cc:=cs }) H4.out.2.1 rfl (HYA.out w5 H5.out.1) (by have :=H5.out.1.size;omega)).mono ?_
  rintro e w6⟨h6,A2,c2,rfl,r2⟩;have h6Y:=H5.out.1.trans (h6.mono H5.out.1.size);clear f0 f1 f2 f3;obtain⟨f0,f1,f2,f3⟩:=al8 (HYC.out w6 h6Y);have H6:=Lib.hid (And.intro h6 (And.intro h6Y r2));clear h6 h6Y r2;have iw:IntKind.i64.wrap (lm:Int)=(lm:Int):=by rw[IntKind.wrap_i64];omega
  go_wp2;refine Par.qaf.seq ?_
  go_wp2;refine(Lo.qd5 (b:=qa2 b sc) (v:={ v with ac:=As,cc:=cs }) H4.out.2.1 rfl (HYA.out w6 H6.out.2.1) (by have :=H6.out.2.1.size;omega) hlim).mono ?_
  rintro e w7⟨h7,A3,c3,rfl,r3⟩;have h7Y:=H6.out.2.1.trans (h7.mono H6.out.2.1.size);clear f0 f1 f2 f3;obtain⟨f0,f1,f2,f3⟩:=al8 (HYC.out w7 h7Y);have H7:=Lib.hid (And.intro h7 (And.intro h7Y r3));clear h7 h7Y r3;go_wp2;refine Par.qaf.seq ?_
  go_wp2;refine(Lo.qd6 (b:=qa2 b sc) (v:={ v with ac:=As,cc:=cs }) H4.out.2.1 rfl (HYA.out w7 H7.out.2.1) (by have :=H7.out.2.1.size;omega)).mono ?_
  rintro e w8⟨h8,rfl⟩;have h8Y:=H7.out.2.1.trans (h8.mono H7.out.2.1.size);have H8:=Lib.hid (And.intro h8 h8Y);clear h8 h8Y f0 f1 f2 f3;go_wp2;have b48:Below w4.heap.size w4 w8:=H4.out.2.2.2.2.trans (H8.out.2.mono (by omega));have b38:Below w3.heap.size w3 w8:=H4.out.1.trans (b48.mono H4.out.1.size);have b08:Below X.heap.size X w8:=H3.out.1.trans (b38.mono H3.out.1.size);have b78:=H8.out.1;have b68:=H7.out.1.trans (b78.mono H7.out.1.size);have b58:=H6.out.1.trans (b68.mono H6.out.1.size);refine Par.qbt (HZ.out.1.trans (by kernel_rfl)) (.inl ⟨qa2 b sc,_,⟨rfl,rfl,⟨ms,ls,ψH,cm,ωb,cl,A1,c1,A2,c2,A3,c3,H4.out.2.1,rfl,rfl,rfl,rfl,rfl,qa9 H3.out.2.2.1 b38,qa9 H3.out.2.2.2 b38,H5.out.2.below b58,H6.out.2.2.below b68,qa9 H7.out.2.2 b78⟩,rfl,rfl,rfl,rfl,rfl,rfl,rfl,rfl,HX.out.2.trans (b08.mono HX.out.2.size),HC.out w8 b08,⟨sc,As,cs,_,rfl,rfl,qb7 (HYA.out w8 H8.out.2) b48.size,HYC.out w8 H8.out.2,Par.dU.keep H4.out.2.2.1 λg hg=>b48.block g ?_, λa e=>?_⟩⟩,by rw[HZ.out.1]⟩)
  .cases As with
   |none=>cases hg
   |some a=>cases hg;exact(H4.out.2.2.2.1 a rfl).2
  .have h1:=H4.out.2.2.2.1 a e;have h2:=H3.out.1.size;have h3:=b48.size;omega
end Go.Proofs
end
section
namespace Go.Proofs
open Go Go.RowKit Go.Maps Go.Proofs.Tryz
theorem qaK{w w':World}{size n:Nat}{A:Option Addr}{f:Nat->Nat->Value}[Lo.St](h:Rd w w.heap.size size A n f)(hz:w.heap.size<=w'.heap.size)(hs:∀x,x<w.heap.size->w'.heap[x]?=w.heap[x]?):Rd w' w'.heap.size size A n f:=qag (h.keep λb o hx=>qbq (hs b hx) o) hz
theorem qb0[Lo.St]{w:World}{A:Option Addr}{n k:Nat}{l:List Int}(h:jR w A n l)(hk:k<n):∃bb off,A=some ⟨bb,off,none⟩∧bb<w.heap.size∧w.cell? ⟨bb,off+k*2,none⟩=some (.int .i64 (lO9 l k))∧w.cell? ⟨bb,off+k*2+1,none⟩=some (.int .i64 (hI9 l k)):=by
 obtain⟨bb,off,e,h1,h2⟩:=h (by omega);exact⟨bb,off,e,h1,h2 k 0 hk (by omega),h2 k 1 hk (by omega)⟩
theorem qas[Lo.St]{w:World}{B k:Nat}{A:Option Addr}{l:List Int}(h:xJ w B A l)(hk:k<l.length):∃bb off,A=some ⟨bb,off,none⟩∧bb<B∧w.cell? ⟨bb,off+k,none⟩=some (.int .i64 (l.getD k 0)):=by
 obtain⟨bb,off,e,h1,h2⟩:=h (by omega);refine⟨bb,off,e,h1,?_⟩;rw[PT h2 hk,List.getD_eq_getElem?_getD,List.getElem?_eq_getElem hk];rfl
variable [Lo.St]
theorem Lo.qbN{w0 w w':World}{B:Nat}{b o:dO}{v v':gJ}{lm:Nat}{a:Act}{A:Option Addr}{cap:Nat}{st:List Int}{eO found:Bool}(h5:ai2)(hb:fC w0 B b v)(hB:B<=w0.heap.size)(hlim:lm<65536)(hh4:b.dJ.length<=4)(hT:T5 B w0 b v lm o a w)(hsz:w.heap.size<=w'.heap.size)(hsame:∀x,x<w.heap.size->w'.heap[x]?=w.heap[x]?)(hp:qck o st eO found):
 wpOps Lo.prog Tryz.qcJ (λe a w=>e=.normal∧Tryz.νU.wp Lo.prog (bodyPost Lo.prog Tryz.f3 λe w'=>∃x,e=.returned x∧x=.bool true) a w) (List.range' 2 9) ((a.put (some 72) (dY o v')).put (some 73) (qap A st.length cap eO found)) w':=by
 obtain⟨U,U2,U3,U4,U5,U6⟩:=Lo.facts;have C3:=Lo.call6;have H5:=Lib.hid h5;obtain⟨d,sz,⟨ms,ls,ψH,cm,ωb,cl,A1,c1,A2,c2,A3,c3,hR,e7,e8,e11,e13,e15,rm,rl,r1,r2,r3⟩,e1,e3,e6,e12,e14,e16,e17,e18,bel,box,⟨sc,_,_,bx,rfl,e10, -⟩⟩:=hT;obtain⟨rfl,rfl⟩:=qbM hR.check hR.holds hp;have hlm:ms.length=b.dz.length:=hR.lm;have hll:ls.length=b.steps.length:=hR.ll;have hn8:b.steps.length<=8:=hR.n8;have ag1:b.dz.length<=12:=(lM hR.small hR.check).p12;have hbx:w0.heap.size<w.heap.size:=(Array.getElem?_eq_some_iff.1 box).1;have hb':fC w' B b v:=hb.keep λx o hx=>(qbq (hsame x (by omega)) o).trans (qbq (bel.block x (by omega)) o)
 have qdW:=(hsame _ hbx).trans box;have rm':=qaK rm hsz hsame;have rl':=qaK rl hsz hsame;have r1':jR w' A1 b.dz.length (p8 (qa2 b sc)):=qaK r1 hsz hsame;have r2':jR w' A2 b.steps.length (yY (qa2 b sc)):=qaK r2 hsz hsame;have r3':=qaK r3 hsz hsame;have hj:(zT (qa2 b sc) lm).length=b.dJ.length:=uV _ _ _;have hbw:w0.heap.size<w'.heap.size:=by omega
 have HM:=Lib.hid (And.intro rm' (And.intro r1' hR.qek));have HL:=Lib.hid (And.intro rl' (And.intro r2' hR.loss));have HJ:=Lib.hid (And.intro r3' (And.intro hj (And.intro (hR.judge lm) hR.sums)));have HB:=Lib.hid (And.intro hb' qdW);obtain⟨T,δi⟩:=a;dsimp only at d sz e1 e3 e6 e7 e8 e11 e12 e13 e14 e15 e16 e17 e18;subst d;have g1:=qa7 e1;have g3:=qa7 e3;have g6:=qa7 e6;have g7:T.getD 7 undef=.slice ψH b.dz.length cm:=qa7 e7;have g8:T.getD 8 undef=.slice ωb b.steps.length cl:=qa7 e8;have g11:T.getD 11 undef=.slice A1 b.dz.length c1:=qa7 e11;have g12:=qa7 e12;have g13:T.getD 13 undef=.slice A2 b.steps.length c2:=qa7 e13;have g14:=qa7 e14;have g15:T.getD 15 undef=.slice A3 b.dJ.length c3:=qa7 e15;have g16:=qa7 e16;have g17:=qa7 e17;have g18:=qa7 e18;clear hb hb' qdW box bel hsame e1 e3 e6 e7 e8 e10 e11 e12 e13 e14 e15 e16 e17 e18 h5 hp hR rm rl r1 r2 r3 rm' rl' r1' r2' r3' hj;refine qcI (by kernel_rfl) ?_
 simp only[Tryz.qcJ,Tryz.νU,Tryz.qax,Tryz.f3,gG,jF,Option.getD_some,Nat.reduceEqDiff,if_true,if_false,reduceIte,List.drop_succ_cons,List.drop_zero];unfold qap;obtain⟨f0,f1,f2,f3⟩:=al8 HB.out.2;revert g1 g3 g6 g7 g8 g11 g12 g13 g14 g15 g16 g17 g18;apply ng sz
 iterate 237 intro _
 rintro⟨⟩⟨⟩⟨⟩⟨⟩⟨⟩⟨⟩⟨⟩⟨⟩⟨⟩⟨⟩⟨⟩⟨⟩⟨⟩;simp only[Act.put,List.setIfInBounds_toArray,List.set_cons_succ,List.set_cons_zero];have iw:IntKind.i64.wrap (lm:Int)=(lm:Int):=by rw[IntKind.wrap_i64];omega
 go_wp2
 go_loopw [23] (λi wr=>∃k:Nat,k<=b.dz.length∧i=.int .i64 (k:Int)∧Below w'.heap.size w' wr) (λi _=>b.dz.length-(intOf i).toNat)
 case atStart=>exact⟨0,Nat.zero_le _,rfl,Below.refl _ _⟩
 case round=>
  obtain⟨k,hk,rfl,hbr⟩:=hrel
  by_cases hlt:k<b.dz.length
  .have hlt':(k:Int)<(b.dz.length:Int):=by omega
   obtain⟨bm,om,em,hbm,cm1⟩:=qas (qa9 HM.out.1 hbr) (k:=k) (by omega);obtain⟨bs,os,es,hbs,cs1,cs2⟩:=qb0 (qa9 HM.out.2.1 hbr) hlt;subst em es;obtain⟨q1,q2⟩:=HM.out.2.2 k hlt;have hme:qab ms (k:Int)=ms.getD k 0:=rfl;rw[hme]at q1 q2;generalize ms.getD k 0=x at cm1 q1 q2;generalize lO9 (p8 (qa2 b sc)) k=lo at cs1 q1;generalize hI9 (p8 (qa2 b sc)) k=hi at cs2 q2;have hlo:¬x<lo:=by omega
   have hhi:¬x> hi:=by omega
   have HR:=Lib.hid hbr;clear hbr;go_wp2
   go_quiet(fail)
   go_wp2;go_roundw
   case rel=>exact⟨k+1,by omega,by go_num,below_drewN HR.out _⟩
   case measure=>simp[intOf];omega
  .obtain rfl:k=b.dz.length:=by omega
   have HR:=Lib.hid hbr;clear hbr;go_wp2;obtain⟨w2,hw2⟩:∃w2,w2=wr:=⟨_,rfl⟩;subst hw2
   go_loopw [24] (λi wr=>∃k:Nat,k<=b.steps.length∧i=.int .i64 (k:Int)∧Below w'.heap.size w' wr) (λi _=>b.steps.length-(intOf i).toNat)
   case atStart=>exact⟨0,Nat.zero_le _,rfl,HR.out⟩
   case round=>
    obtain⟨k,hk,rfl,hbr⟩:=hrel
    by_cases hlt:k<b.steps.length
    .have hlt':(k:Int)<(b.steps.length:Int):=by omega
     obtain⟨bm,om,em,hbm,cm1⟩:=qas (qa9 HL.out.1 hbr) (k:=k) (by omega);obtain⟨bs,os,es,hbs,cs1,cs2⟩:=qb0 (qa9 HL.out.2.1 hbr) hlt;subst em es;obtain⟨q1,q2⟩:=HL.out.2.2 k hlt;generalize ls.getD k 0=x at cm1 q1 q2;generalize lO9 (yY (qa2 b sc)) k=lo at cs1 q1;generalize hI9 (yY (qa2 b sc)) k=hi at cs2 q2;have hlo:¬x<lo:=by omega
     have hhi:¬x> hi:=by omega
     have HR2:=Lib.hid hbr;clear hbr;go_wp2
     go_quiet(fail)
     go_wp2;go_roundw
     case rel=>exact⟨k+1,by omega,by go_num,below_drewN HR2.out _⟩
     case measure=>simp[intOf];omega
    .obtain rfl:k=b.steps.length:=by omega
     have HR2:=Lib.hid hbr;clear hbr;go_wp2;obtain⟨w3,hw3⟩:∃w3,w3=wr:=⟨_,rfl⟩;subst hw3
     go_loopw [25] (λi wr=>∃h:Nat,h<=b.dJ.length∧i=.int .i64 (h:Int)∧Below w'.heap.size w' wr) (λi _=>b.dJ.length-(intOf i).toNat)
     case atStart=>exact⟨0,Nat.zero_le _,rfl,HR2.out⟩
     case round=>
      obtain⟨h,hh,rfl,hbr⟩:=hrel
      by_cases hlt:h<b.dJ.length
      .have hlt':(h:Int)<(b.dJ.length:Int):=by omega
       obtain⟨w4,hw4⟩:∃w4,w4=wr:=⟨_,rfl⟩;subst hw4;have HR3:=Lib.hid hbr;clear hbr;go_wp2
       go_loopw [26,27] (λsv i wr=>∃k:Nat,k<=b.steps.length∧i=.int .i64 (k:Int)∧sv=.int .i64 (qa0 (qa2 b sc) ls h k)∧w4=wr) (λ_ i _=>b.steps.length-(intOf i).toNat)
       case atStart=>exact⟨0,Nat.zero_le _,rfl,rfl,rfl⟩
       case round=>
        obtain⟨k,hk,rfl,rfl,rfl⟩:=hrel;have JI:=HJ.out.2.2.2 h k hk
        by_cases hlk:k<b.steps.length
        .have qep:(k:Int)<(b.steps.length:Int):=by omega
         have qdX:=HJ.out.2.2.2 h (k+1) hlk;have hse:qa0 (qa2 b sc) ls h (k+1)=qa0 (qa2 b sc) ls h k+(if(b.steps.getD k qa6).hand=(h:Int)then ls.getD k 0 else 0):=rfl;obtain⟨bb,off,ex,hbb,hcc⟩:=(HB.out.1.keep λd o hx=>dH HR3.out d o (by omega)).steps (by omega);have f2:=(dH HR3.out _ 2 hbw).trans (cell_of HB.out.2 2);rw[show(#[Value.slice v.ah b.dJ.length v.ch,.slice v.ap b.dz.length v.cp,.slice v.iT b.steps.length v.cs,.slice v.ac b.dA.length v.cc]:Array Value)[2]=.slice v.iT b.steps.length v.cs from rfl,ex]at f2;obtain⟨r0, -⟩:=sZ hcc hlk;have hg:b.steps.getD k qa6=b.steps[k]:=by rw[List.getD_eq_getElem?_getD,List.getElem?_eq_getElem hlk];rfl
         rw[hg]at hse;obtain⟨bm,om,em,hbm,cm1⟩:=qas (qa9 HL.out.1 HR3.out) (k:=k) (by omega);subst em;generalize b.steps[k].hand=hd at r0 hse;generalize ls.getD k 0=x at cm1 hse;rw[hse]at qdX;obtain⟨S,hS⟩:∃S,qa0 (qa2 b sc) ls h k=S:=⟨_,rfl⟩;rw[hS]at hse JI qdX;rw[hS]
         by_cases e:hd=(h:Int)
         .subst e;rw[if_pos rfl]at hse qdX;have iw2:IntKind.i64.wrap (S+x)=S+x:=by rw[IntKind.wrap_i64];omega
          have HS:=Lib.hid hse;clear hse hcc hS ex hg;go_wp2;go_roundw
          case rel=>exact⟨k+1,hlk,by go_num,by rw[HS.out],trivial⟩
          case measure=>simp[intOf];omega
         .rw[if_neg e,Int.add_zero]at hse qdX;have HS:=Lib.hid hse;clear hse hcc hS ex hg;go_wp2;go_roundw
          case rel=>exact⟨k+1,hlk,by go_num,by rw[HS.out],trivial⟩
          case measure=>simp[intOf];omega
        .obtain rfl:k=b.steps.length:=by omega
         obtain⟨bj,oj,ej,hbj,cj⟩:=qas (qa9 HJ.out.1 HR3.out) (k:=h) (by rw[HJ.out.2.1];exact hlt);have hjl:h<(zT (qa2 b sc) lm).length:=by rw[HJ.out.2.1];exact hlt
         obtain⟨p1,p2⟩:=HJ.out.2.2.1 h _ (List.getElem?_eq_getElem hjl);have hgj:(zT (qa2 b sc) lm).getD h 0=(zT (qa2 b sc) lm)[h]:=by rw[List.getD_eq_getElem?_getD,List.getElem?_eq_getElem hjl];rfl
         rw[hgj]at cj;subst ej;replace p1:(zT (qa2 b sc) lm)[h]=1->(lm:Int)<qa0 (qa2 b sc) ls h b.steps.length:=p1;replace p2:(zT (qa2 b sc) lm)[h]=2->qa0 (qa2 b sc) ls h b.steps.length<=(lm:Int):=p2;generalize(zT (qa2 b sc) lm)[h]=y at cj p1 p2;generalize qa0 (qa2 b sc) ls h b.steps.length=S at p1 p2 JI⊢;clear hgj hjl
         by_cases y1:y=1
         .subst y1;have hq:=p1 rfl;have hq':¬S<=(lm:Int):=by omega
          clear p1 p2;go_wp2;go_roundw
          case rel=>exact⟨h+1,hlt,by go_num,HR3.out⟩
          case measure=>simp[intOf];omega
         by_cases y2:y=2
         .subst y2;have hq:=p2 rfl;have hq':¬(lm:Int)<S:=by omega
          clear p1 p2;go_wp2;go_roundw
          case rel=>exact⟨h+1,hlt,by go_num,HR3.out⟩
          case measure=>simp[intOf];omega
         .clear p1 p2;go_wp2;go_roundw
          case rel=>exact⟨h+1,hlt,by go_num,HR3.out⟩
          case measure=>simp[intOf];omega
      .obtain rfl:h=b.dJ.length:=by omega
       clear hbr;go_wp2;refine(H5.out _).mono ?_
       rintro e w5⟨rfl,rfl⟩;go_wp2;go_ret
       first|rfl|exact⟨_,rfl,rfl⟩
end Go.Proofs
end
section
namespace Go.Proofs
open Go Go.RowKit Go.Maps Go.Proofs.Tryz Par
section
variable [Lo.St]
theorem Lo.qbO{w:World}{B:Nat}{b:dO}{v:gJ}{lm:Int}{x:Value}(h5:ai2)(hb:fC w B b v)(hB:B<=w.heap.size)(hbc:GG b v)(hx:Dz b=true∨fG b≠0):
 Calls Lo.prog 3 #[dY b v,.int .u16 lm,x] w λe w'=>e=.returned (.bool true):=by
 obtain⟨U,U2,U3,U4,U5,U6⟩:=Lo.facts;have C:=Lo.call Tryz.func4;have C2:=Lo.call Tryz.func5;have C3:=Lo.call6;have H5:=Lib.hid h5;obtain⟨X,hX,sX,bX,hA,hC⟩:=bx9 hb hB;have HC:=Lib.hid hC;have HA:=Lib.hid hA;have HX:=Lib.hid (And.intro hX bX);have HBC:=Lib.hid hbc;have HXX:=Lib.hid hx;clear hX bX hA hC hb h5 hbc hx;obtain⟨f0,f1,f2,f3⟩:=al8 (HC.out X (Below.refl _ _));show Calls Lo.prog 3 #[Value.agg (lN b v),_,_] w _;unfold lN;go_enter Lo.get Tryz.func3,Tryz.ntmps3;go_wp2;have hy:=HX.out.1;unfold lN at hy;rw[hy];clear hy;refine(Lo.aa0 (b:=b) (v:=v) rfl (HA.out X (Below.refl _ _)) (by omega)).mono ?_
 rintro e w1⟨rfl,h1⟩;obtain⟨f0,f1,f2,f3⟩:=al8 (HC.out w1 h1);cases hg:Dz b with
 |true=>
  go_wp2;refine(H5.out _).mono ?_
  rintro e w5⟨rfl,rfl⟩;go_wp2;go_ret;rfl
 |false=>
  have hs:=Vz hg;have hcx:=HXX.out.resolve_left (by rw[hg];simp);clear hg;go_wp2;refine(Lo.YR (b:=b) (v:=v) rfl (HA.out w1 h1) (by have :=h1.size;omega) hs HBC.out).mono ?_
  rintro e w2⟨rfl,h2⟩;generalize fG b=cx at hcx⊢;have z2:(cx !=0)=true:=by simpa using hcx
  go_wp2;refine(H5.out _).mono ?_
  rintro e w5⟨rfl,rfl⟩;go_wp2;go_ret;rfl
theorem Lo.qbP{a:Act}{w w':World}(h5:ai2)(hT:N5 a w):Tryz.ζI.wp Lo.prog (bodyPost Lo.prog Tryz.f3 λe w'=>∃x,e=.returned x∧x=.bool true) a w':=by
 have C3:=Lo.call6;have H5:=Lib.hid h5;obtain⟨d,sz,e9⟩:=hT;obtain⟨T,δi⟩:=a;dsimp only at d sz e9;subst d;have g9:=qa7 e9;clear e9 h5;simp only[Tryz.ζI,Tryz.qax,Tryz.f3,gG,jF,Option.getD_some,Nat.reduceEqDiff,if_true,if_false,reduceIte,List.drop_succ_cons,List.drop_zero];revert g9;apply ng sz
 iterate 237 intro _
 rintro⟨⟩;go_wp2;refine(H5.out _).mono ?_
 rintro e w5⟨rfl,rfl⟩;go_wp2;go_ret
 first|rfl|exact⟨_,rfl,rfl⟩
end
theorem qcn{As As':Nat->Prop}[Par.Sh]{n:Nat}{S V:FuncId->Bool}{cd:Code->Bool}(h:∀x,As x->As' x){y:Value}(hy:vs (FA S V cd (Bd (iL As n) n)) y=true):vs (FA S V cd (Bd (iL As' n) n)) y=true:=
 xZ (F:=FA S V cd (Bd (iL As n) n)) (F':=FA S V cd (Bd (iL As' n) n)) ⟨rfl,rfl⟩ (λx hx=>by
  obtain⟨h1,h2⟩:=gH.1 hx;exact gH.2 ⟨mZ.2 ((mZ.1 h1).imp (h x) id),h2⟩) y hy
theorem qd8[Lo.St]{L:List Part}{W w0 w:World}{b o:dO}{v:gJ}{lm:Nat}{a:Act}{B:Nat}(hL:∀x∈L,x.h=false->U9 L Tryz.prog.types.size W x)(hT:T5 B w0 b v lm o a w)(hz:L.length+1=w0.heap.size)(hw0:w0.heap=(wL L Tryz.prog.types.size W).heap)
 (hvs:letI:=zi L Tryz.prog.types.size; ∀(S V:FuncId->Bool)(cd:Code->Bool),vs (FA S V cd (Bd (aL L) (L.length+1))) (dY b v)=true):∃νv,qbZ L o 10 a w νv:=by
 letI:=zi L Tryz.prog.types.size;obtain⟨sc,A,c,bx,rfl,e10,hbk,qdW,hpl,hin⟩:=hT.made;have z8:L.length+1<=w.heap.size:=by have :=hT.bel.size;omega
 obtain⟨l1,l2⟩:=qbi (W:=W) (w:=w) hL z8 λx hx=>(hT.bel.block x (by omega)).trans (by rw[hw0])
 obtain⟨As,hAs⟩:∃As:Nat->Prop,As= λx=>Bd (aL L) (L.length+1) x=true∨∃q,A=some q∧x=q.block:=⟨_,rfl⟩
 have hmore:∀x,Bd (aL L) (L.length+1) x=true->As x:= λx hx=>by rw[hAs];exact .inl hx
 refine⟨{ v with ac:=A,cc:=c },⟨bx,(0,0),e10,qdW⟩,hbk,As, λx hx=>?_, λS V cd=>?_⟩
 .rw[hAs]at hx;rcases hx with hx|⟨q,rfl,rfl⟩
  .obtain⟨q1,q2,cc,e,fr,q3,q4⟩:=l1 x hx;exact⟨q1,q2,cc,e,fr,q3, λy hy S V cd=>qcn hmore (q4 y hy S V cd)⟩
  .obtain⟨h1,h2⟩:=hin q rfl;obtain⟨cur,e,h3,h4⟩:=hpl q.block rfl;refine⟨h2,xe.2 ⟨by omega,?_⟩,cur,e,_,h3, λy hy S V cd=>(iP (f:=id) (h4 y hy)).2⟩;unfold F4;rw[List.getElem?_eq_none (by omega)];simp
 .have h0:=l2 _ hvs S V cd;have h1:=qcn (S:=S) (V:=V) (cd:=cd) hmore h0;unfold dY at h1⊢;rw[lV]at h1⊢;intro y hy;simp only[List.mem_toArray,List.mem_cons,List.not_mem_nil,or_false]at hy;rcases hy with rfl|rfl|rfl|rfl
  .exact h1 _ (by simp;exact .inl rfl)
  .exact h1 _ (by simp;exact .inr (.inl rfl))
  .exact h1 _ (by simp;exact .inr (.inr (.inl rfl)))
  .rw[gY];cases A with
   |none=>rfl
   |some q=>exact qH (gH.2 ⟨mZ.2 (.inl (by rw[hAs];exact .inr ⟨q,rfl,rfl⟩)),(hin q rfl).2⟩)
end Go.Proofs
end
