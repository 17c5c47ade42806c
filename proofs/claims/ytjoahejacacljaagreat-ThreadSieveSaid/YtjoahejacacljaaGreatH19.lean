/- Part 19. -/
import Derived.Maps.OwnSet
import Derived.Deep.RegionLaw
import Derived.Deep.AppendLies
import Derived.Test.YtjoahejacacljaaGreatH17
set_option maxRecDepth 100000
set_option maxHeartbeats 0
set_option linter.all false
namespace Go.Proofs
open Go Go.RowKit Go.Maps
section
structure dW where
 hand:Int
 ins:List Int
 outs:List Int
 g0:Int
 g1:Int
 l0:Int
 l1:Int
structure jD where
 pile:Int
 lo:Int
 hi:Int
structure dO where
 dJ:List ByteArray
 dz:List ByteArray
 steps:List dW
 dA:List jD
structure MK where
 a1:Option Addr
 c1:Nat
 a2:Option Addr
 c2:Nat
structure gJ where
 ah:Option Addr
 ch:Nat
 ap:Option Addr
 cp:Nat
 iT:Option Addr
 cs:Nat
 ac:Option Addr
 cc:Nat
 sv:Nat->MK
def dW.cells(s:dW)(p:MK):Nat->Value
 |0=>.int .i64 s.hand
 |1=>.slice p.a1 s.ins.length p.c1
 |2=>.slice p.a2 s.outs.length p.c2
 |3=>.int .i64 s.g0
 |4=>.int .i64 s.g1
 |5=>.int .i64 s.l0
 |_=>.int .i64 s.l1
def jD.cells(s:jD):Nat->Value
 |0=>.int .i64 s.pile
 |1=>.int .i64 s.lo
 |_=>.int .i64 s.hi
def Gi(ss:List dW)(sv:Nat->MK)(i j:Nat):Value:=((ss[i]?).getD ⟨0,[],[],0,0,0,0⟩).cells (sv i) j
def vD(ss:List jD)(i j:Nat):Value:=((ss[i]?).getD ⟨0,0,0⟩).cells j
def dY(b:dO)(v:gJ):Value:=.agg #[.slice v.ah b.dJ.length v.ch,.slice v.ap b.dz.length v.cp,.slice v.iT b.steps.length v.cs,.slice v.ac b.dA.length v.cc]
def pW{a b c:World}{row row':Option Nat}(h:a.grownBy b row)(k:b.grownBy c row')(hr:∀j,row'=some j->a.heap.size<=j∨row=some j):a.grownBy c row:=
 ⟨k.os.trans h.os,k.tape.trans h.tape,k.output.trans h.output,aS h.size k.size, λi hi hne=>(k.block i (aK hi h.size) λe=>(hr i e.symm).elim (λx=>absurd x (Nat.not_le.2 hi)) λx=>hne x.symm).trans (h.block i hi hne)⟩
def below_grown{w w':World}{n:Nat}(h:Below n w w')(hn:n=w.heap.size)(row:Option Nat):w.grownBy w' row:=⟨h.os,h.tape,h.output,h.size, λi hi _=>h.block i (hn ▸ hi)⟩
def KU(w:World)(row:Option Nat):w.grownBy w.drew row:=⟨rfl,rfl,rfl,aJ _, λ_ _ _=>rfl⟩
def lK(w:World)(b o:Nat)(v:Value):w.grownBy (w.setCell ⟨b,o,none⟩ v) (some b):=⟨rfl,rfl,rfl,by simp[World.setCell], λi _ hne=>Below.heap_setCell w _ v i (λe=>hne (by rw[e]))⟩
def pX(w:World)(r:Option Nat):w.grownBy w r:=⟨rfl,rfl,rfl,aJ _, λ_ _ _=>rfl⟩
variable [Lo.St]
structure fC(w:World)(B:Nat)(b:dO)(v:gJ):Prop where
 dJ:F8 w B v.ah b.dJ
 dz:F8 w B v.ap b.dz
 steps:Rd w B 7 v.iT b.steps.length (Gi b.steps v.sv)
 ins:∀i s,b.steps[i]?=some s->xJ w B (v.sv i).a1 s.ins
 outs:∀i s,b.steps[i]?=some s->xJ w B (v.sv i).a2 s.outs
 dA:Rd w B 3 v.ac b.dA.length (vD b.dA)
 lh:b.dJ.length<=v.ch
 lp:b.dz.length<=v.cp
 ls:b.steps.length<=v.cs
 lc:b.dA.length<=v.cc
def fC.keep{w w':World}{B:Nat}{b:dO}{v:gJ}(h:fC w B b v)(hk:∀b o,b<B->w'.cell? ⟨b,o,none⟩=w.cell? ⟨b,o,none⟩):fC w' B b v:=
 ⟨h.dJ.keep hk,h.dz.keep hk,h.steps.keep hk, λi s e=>(h.ins i s e).keep hk, λi s e=>(h.outs i s e).keep hk,h.dA.keep hk,h.lh,h.lp,h.ls,h.lc⟩
structure dO.small(b:dO):Prop where
 dJ:b.dJ.length<=64
 dz:b.dz.length<=64
 steps:b.steps.length<=64
 dA:b.dA.length<=64
 ins:∀s∈b.steps,s.ins.length<=64
 outs:∀s∈b.steps,s.outs.length<=64
def sZ{w:World}{bb off k:Nat}{ss:List dW}{sv:Nat->MK}(hc:∀i j,i<ss.length->j<7->w.cell? ⟨bb,off+(i*7+j),none⟩=some (Gi ss sv i j))(hlt:k<ss.length):
 w.cell? ⟨bb,off+k*7,none⟩=some (.int .i64 ss[k].hand)∧w.cell? ⟨bb,off+k*7+1,none⟩=some (.slice (sv k).a1 ss[k].ins.length (sv k).c1)∧w.cell? ⟨bb,off+k*7+2,none⟩=some (.slice (sv k).a2 ss[k].outs.length (sv k).c2)∧
 w.cell? ⟨bb,off+k*7+3,none⟩=some (.int .i64 ss[k].g0)∧w.cell? ⟨bb,off+k*7+4,none⟩=some (.int .i64 ss[k].g1)∧w.cell? ⟨bb,off+k*7+5,none⟩=some (.int .i64 ss[k].l0)∧w.cell? ⟨bb,off+k*7+6,none⟩=some (.int .i64 ss[k].l1):=by
 have e:∀j,j<7->w.cell? ⟨bb,off+(k*7+j),none⟩=some (ss[k].cells (sv k) j):= λj hj=>by rw[hc k j hlt hj];unfold Gi;rw[aN hlt];rfl
 exact⟨e 0 (by omega),e 1 (by omega),e 2 (by omega),e 3 (by omega),e 4 (by omega),e 5 (by omega),e 6 (by omega)⟩
def CU{w:World}{bb off k:Nat}{ss:List jD}(hc:∀i j,i<ss.length->j<3->w.cell? ⟨bb,off+(i*3+j),none⟩=some (vD ss i j))(hlt:k<ss.length):
 w.cell? ⟨bb,off+k*3,none⟩=some (.int .i64 ss[k].pile)∧w.cell? ⟨bb,off+k*3+1,none⟩=some (.int .i64 ss[k].lo)∧w.cell? ⟨bb,off+k*3+2,none⟩=some (.int .i64 ss[k].hi):=by
 have e:∀j,j<3->w.cell? ⟨bb,off+(k*3+j),none⟩=some (ss[k].cells j):= λj hj=>by rw[hc k j hlt hj];unfold vD;rw[aN hlt];rfl
 exact⟨e 0 (by omega),e 1 (by omega),e 2 (by omega)⟩
def Gj{w:World}{bb off k:Nat}{l:List Int}(hc:∀i j,i<l.length->j<1->w.cell? ⟨bb,off+(i*1+j),none⟩=some (.int .i64 ((l[i]?).getD 0)))(hlt:k<l.length):w.cell? ⟨bb,off+k,none⟩=some (.int .i64 l[k]):=by have :=hc k 0 hlt (by omega);rw[Nat.mul_one,aH]at this;rw[this,aN hlt];rfl
abbrev kI(p:Int):Lit:=.int .i64 p
abbrev vI(p:Int):DataW Unit:=.lit (.int .i64 p)
def yQ(l:List (Int×Int)):DataW Unit:=l.foldl (λm x=>m.put (kI x.1) (vI x.2)) (.map [])
def qg(l:List (Int×Int))(p:Int):Option Int:=l.foldl (λm x=>if x.1=p then some x.2 else m) none
def zO(l:List (Int×Int))(p i:Int):yQ (l++ [(p,i)])=(yQ l).put (kI p) (vI i):=by simp[yQ,List.foldl_append]
def uO(l:List (Int×Int))(p i q:Int):qg (l++ [(p,i)]) q=if p=q then some i else qg l q:=by simp[qg,List.foldl_append]
def Gm(p:Int):WideAt.IsKeyLit (kI p):=by first|exact .inr ⟨_,_,rfl⟩|exact⟨_,_,rfl⟩|trivial|(unfold WideAt.IsKeyLit;simp[kI])
def Gn{p q:Int}(h:p≠q):kI p≠kI q:= λe=>h (by cases e;rfl)
def I9(l:List (Int×Int)):IsMap (yQ l):=by
 unfold yQ
 have:∀(l:List (Int×Int))(D:DataW Unit),IsMap D->IsMap (l.foldl (λm x=>m.put (kI x.1) (vI x.2)) D):=by
  intro l
  induction l with
  |nil=>intro D h;exact h
  |cons x l ih=>intro D h;exact ih _ (h.put _ _)
 exact this l _ isMap_empty
def uP{α:Type}{P:List α->Prop}(h0:P [])(h1:∀l x,P l->P (l++ [x]))(l:List α):P l:=by
 have:∀n(l:List α),l.length=n->P l:=by
  intro n
  induction n with
  |zero=>intro l hl;rw[List.length_eq_zero_iff.1 hl];exact h0
  |succ n ih=>
   intro l hl;have hne:l≠ []:=by intro e;rw[e]at hl;cases hl
   rw[<-List.dropLast_concat_getLast hne];exact h1 _ _ (ih _ (by rw[List.length_dropLast,hl];rfl))
 exact this _ l rfl
def ML(l:List (Int×Int))(q:Int)(z:Int):(yQ l).atKey (kI q) (vI z)=vI ((qg l q).getD z):=by
 induction l using uP with
 |h0=>rfl
 |h1 l x ih=>
  obtain⟨p,i⟩:=x;rw[zO,uO]
  by_cases h:p=q
  .subst h;rw[aj rfl,atKey_put_same (I9 l) (Gm p)];rfl
  .rw[aa h,atKey_put_other (Gn (Ne.symm h)),ih]
def RB(l:List (Int×Int))(q:Int):Maps.has (yQ l) (kI q)=(qg l q).isSome:=by
 induction l using uP with
 |h0=>rfl
 |h1 l x ih=>
  obtain⟨p,i⟩:=x;rw[zO,uO]
  by_cases h:p=q
  .subst h;rw[aj rfl,has_put_same (I9 l) (Gm p)];rfl
  .rw[aa h,has_put_other (Gn (Ne.symm h)),ih]
def RD{a b:Int}(h:vI a=vI b):a=b:=by cases h;rfl
def Z6{p:Int}(h1: -9223372036854775808<=p)(h2:p<=9223372036854775807):(Lit.int .i64 p).wf=true:=WalkArith.wf_i64 ⟨h1,h2⟩
def fP(f:dW->List Int)(ss:List dW):Nat->List (Int×Int)
 |0=>[]
 |k+1=>fP f ss k++(match ss[k]? with |some s=>(f s).map λp=>(p,(k:Int))|none=>[])
def qO(ss:List dW)(p:Int):Option Int:=qg (fP dW.ins ss ss.length) p
def tq(ss:List dW)(p:Int):Int:=(qg (fP dW.outs ss ss.length) p).getD 0
def xq(f:dW->List Int)(ss:List dW):∀k,∀x∈fP f ss k,0<=x.2∧x.2<k
 |0=> λx h=>by simp[fP]at h
 |k+1=> λx h=>by
  unfold fP at h;rcases List.mem_append.1 h with h|h
  .have :=xq f ss k x h;omega
  .cases e:ss[k]? with
   |none=>rw[e]at h;simp at h
   |some s=>rw[e]at h;simp at h;obtain⟨p,_,rfl⟩:=h;dsimp only;omega
def CV(l:List (Int×Int))(p:Int){i:Int}(h:qg l p=some i):(p,i)∈l:=by
 induction l using uP with
 |h0=>cases h
 |h1 l x ih=>
  obtain⟨q,j⟩:=x;rw[uO]at h;split at h
  .rename_i e;cases h;subst e;simp
  .exact List.mem_append_left _ (ih h)
def PU(p:Int)(x:Int×Int)(s:jD):Int×Int:=if s.pile=p then(max x.1 s.lo,min x.2 s.hi)else x
def je(sc:List jD)(p:Int):Int×Int:=sc.foldl (PU p) (0,1000000)
def mh(b:dO)(p:Nat):eX:=⟨(je b.dA p).1,(je b.dA p).2,(tq b.steps p).toNat,((qO b.steps p).getD b.steps.length).toNat⟩
def nT(n:Nat)(hand:Int)(i:Nat)(s:dW):List eX:=[⟨s.g0,s.g1,n,i⟩,⟨s.l0,s.l1,i,if s.hand=hand then n+1 else n⟩]
def eG(b:dO)(k:Nat):List eX:=(List.range k).map (mh b)
def fq(b:dO)(hand:Int):Nat->List eX
 |0=>[]
 |k+1=>fq b hand k++(match b.steps[k]? with |some s=>nT b.steps.length hand k s|none=>[])
def fA(b:dO)(hand:Int):List eX:=
 eG b b.dz.length++fq b hand b.steps.length++(if 0<=hand then[⟨0,8000000,b.steps.length+1,b.steps.length⟩]else[])
def dZ(b:dO)(hand:Int):Nat:=if 0<=hand then b.steps.length+2 else b.steps.length+1
structure dO.good(b:dO):Prop extends b.small where
 n8:b.steps.length<=8
 eV:b.dz.length<=12
 sc:∀s∈b.dA,0<=s.lo∧s.lo<=1000000∧0<=s.hi∧s.hi<=1000000
 st:∀s∈b.steps,0<=s.g0∧s.g0<=1000000∧0<=s.g1∧s.g1<=1000000∧0<=s.l0∧s.l0<=1000000∧0<=s.l1∧s.l1<=1000000
 ki:∀s∈b.steps,∀p∈s.ins, -9223372036854775808<=p∧p<=9223372036854775807
 ko:∀s∈b.steps,∀p∈s.outs, -9223372036854775808<=p∧p<=9223372036854775807
def af9(sc:List jD)(p:Int)(h:∀s∈sc,0<=s.lo∧s.lo<=1000000∧0<=s.hi∧s.hi<=1000000):0<=(je sc p).1∧(je sc p).1<=1000000∧0<=(je sc p).2∧(je sc p).2<=1000000:=by
 induction sc using uP with
 |h0=>simp[je]
 |h1 l s ih=>
  have ih:=ih λs hs=>h s (List.mem_append_left _ hs)
  obtain⟨a1,a2,a3,a4⟩:=h s (by simp);unfold je at ih⊢;rw[List.foldl_append];simp only[List.foldl_cons,List.foldl_nil];generalize l.foldl (PU p) (0,1000000)=x at ih;unfold PU;split
  .refine⟨?_,?_,?_,?_⟩<;>dsimp only <;>omega
  .exact ih
def MM(ss:List dW)(p:Int):0<=tq ss p∧tq ss p<=ss.length:=by
 unfold tq;cases h:qg (fP dW.outs ss ss.length) p with
 |none=>simp
 |some i=>
  have :=xq _ _ _ _ (CV _ _ h);dsimp only at this;simp only[ak];omega
def RF(ss:List dW)(p:Int):0<=(qO ss p).getD ss.length∧(qO ss p).getD ss.length<=ss.length:=by
 unfold qO;cases h:qg (fP dW.ins ss ss.length) p with
 |none=>simp
 |some i=>
  have :=xq _ _ _ _ (CV _ _ h);dsimp only at this;simp only[ak];omega
def AB(b:dO)(hand:Int)(hg:b.good):∀k,∀x∈fq b hand k,x.ok
 |0=> λx h=>by simp[fq]at h
 |k+1=> λx h=>by
  unfold fq at h;rcases List.mem_append.1 h with h|h
  .exact AB b hand hg k x h
  .cases e:b.steps[k]? with
   |none=>rw[e]at h;simp at h
   |some s=>
    rw[e]at h;have hk:=(aY.1 e).1;obtain⟨a1,a2,a3,a4,a5,a6,a7,a8⟩:=hg.st s (List.mem_of_getElem? e);have :=hg.n8;simp only[nT,bD,ax,or_false]at h;rcases h with rfl|rfl
    .refine⟨?_,?_,?_,?_,?_,?_⟩<;>dsimp only <;>omega
    .refine⟨?_,?_,?_,?_,?_,?_⟩<;>dsimp only <;>(try split)<;>omega
def qA(b:dO)(hand:Int):∀k,k<=b.steps.length->(fq b hand k).length=2*k
 |0,_=>rfl
 |k+1,h=>by unfold fq;rw[aN h,List.length_append,qA b hand k (by omega)];simp[nT];omega
def Ja(b:dO)(hg:b.good)(p:Nat):(mh b p).ok:=by obtain⟨a1,a2,a3,a4⟩:=af9 b.dA p hg.sc;have h1:=MM b.steps p;have h2:=RF b.steps p;have :=hg.n8;exact⟨a1,by show(je b.dA p).1<=8000000;omega,a3,by show(je b.dA p).2<=8000000;omega,by show(tq b.steps p).toNat<64;omega,by show((qO b.steps p).getD b.steps.length).toNat<64;omega⟩
def MN(b:dO)(hand:Int)(hg:b.good):∀x∈fA b hand,x.ok:=by
 intro x hx;unfold fA at hx;rcases List.mem_append.1 hx with hx|hx
 .rcases List.mem_append.1 hx with hx|hx
  .obtain⟨p,_,rfl⟩:=List.mem_map.1 hx;exact Ja b hg p
  .exact AB b hand hg _ x hx
 .split at hx
  .have :=hg.n8;simp at hx;subst hx
   exact⟨by simp,by simp,by simp,by simp,by dsimp only;omega,by dsimp only;omega⟩
  .simp at hx
def yR(b:dO)(hand:Int):(fA b hand).length=b.dz.length+2*b.steps.length+(if 0<=hand then 1 else 0):=by unfold fA eG;rw[List.length_append,List.length_append,qA b hand _ (aJ _)];simp only[List.length_map,List.length_range];congr 1;split<;>rfl
end
section
variable [Lo.St]
def qP:List ByteArray->List ByteArray->Int
 | [],_=>0
 |s::r,seen=>if gy s=false then 4 else if F9 s seen=true then 5 else qP r (seen++ [s])
def dP(l:List ByteArray)(most:Nat):Int:=if most<l.length then 2 else qP l []
def oD(np:Nat)(M:List Int):List Int->List Int->Int×List Int
 | [],U=>(0,U)
 |p::r,U=>if kH p 0 ((np:Int)-1)=false then(6,U)else if M.contains p=false then(7,U)else if U.contains p=true then(5,U)else oD np M r (U++ [p])
def iX(np:Nat):List Int->List Int->Int×List Int
 | [],M=>(0,M)
 |p::r,M=>if kH p 0 ((np:Int)-1)=false then(6,M)else if M.contains p=true then(5,M)else iX np r (M++ [p])
def jr(nh np:Nat):List dW->List Int->List Int->Int×List Int
 | [],M,_=>(0,M)
 |s::r,M,U=>
  if kH s.hand 0 ((nh:Int)-1)=false then(6,M)else
  if(oD np M s.ins U).1≠0 then((oD np M s.ins U).1,M)else
  if(iX np s.outs M).1≠0 then((iX np s.outs M).1,M)else
  if eT s.g0 s.g1 0 1000000=false then(1,M)else
  if eT s.l0 s.l1 0 1000000=false then(1,M)else
  jr nh np r (iX np s.outs M).2 (oD np M s.ins U).2
def fB(b:dO):Int:=
 if 8<b.steps.length then 2 else
 if(jr b.dJ.length b.dz.length b.steps [] []).1≠0 then(jr b.dJ.length b.dz.length b.steps [] []).1 else
 if(jr b.dJ.length b.dz.length b.steps [] []).2.length<b.dz.length then 6 else 0
def ku(np:Nat):List jD->Int
 | []=>0
 |s::r=>if kH s.pile 0 ((np:Int)-1)=false then 6 else if eT s.lo s.hi 0 1000000=false then 1 else ku np r
def fG(b:dO):Int:=
 if dP b.dJ 4≠0 then dP b.dJ 4 else
 if dP b.dz 12≠0 then dP b.dz 12 else
 if fB b≠0 then fB b else
 if 10<b.dA.length then 2 else ku b.dz.length b.dA
def RG{np:Nat}{M:List Int}:∀{l U:List Int},(oD np M l U).1=0->∀p∈l,0<=p∧p<=(np:Int)-1
 | [],_,_=> λp hp=>by simp at hp
 |q::r,U,h=> λp hp=>by
  unfold oD at h
  by_cases h1:kH q 0 ((np:Int)-1)=false
  .rw[aj h1]at h;cases h
  .rw[aa h1]at h
   by_cases h2:M.contains q=false
   .rw[aj h2]at h;cases h
   .rw[aa h2]at h
    by_cases h3:U.contains q=true
    .rw[aj h3]at h;cases h
    .rw[aa h3]at h;rcases bD.1 hp with rfl|hp
     .simp[kH]at h1;omega
     .exact RG h p hp
def Gp{np:Nat}:∀{l M:List Int},(iX np l M).1=0->∀p∈l,0<=p∧p<=(np:Int)-1
 | [],_,_=> λp hp=>by simp at hp
 |q::r,M,h=> λp hp=>by
  unfold iX at h
  by_cases h1:kH q 0 ((np:Int)-1)=false
  .rw[aj h1]at h;cases h
  .rw[aa h1]at h
   by_cases h3:M.contains q=true
   .rw[aj h3]at h;cases h
   .rw[aa h3]at h;rcases bD.1 hp with rfl|hp
    .simp[kH]at h1;omega
    .exact Gp h p hp
def vE{nh np:Nat}:∀{l:List dW}{M U:List Int},(jr nh np l M U).1=0->∀s∈l,
 kH s.hand 0 ((nh:Int)-1)=true∧(∀p∈s.ins,0<=p∧p<=(np:Int)-1)∧(∀p∈s.outs,0<=p∧p<=(np:Int)-1)∧eT s.g0 s.g1 0 1000000=true∧eT s.l0 s.l1 0 1000000=true
 | [],_,_,_=> λs hs=>by simp at hs
 |t::r,M,U,h=> λs hs=>by
  unfold jr at h
  by_cases h1:kH t.hand 0 ((nh:Int)-1)=false
  .rw[aj h1]at h;cases h
  rw[aa h1]at h
  by_cases h2:(oD np M t.ins U).1≠0
  .rw[aj h2]at h;exact absurd h h2
  rw[aa h2]at h
  by_cases h3:(iX np t.outs M).1≠0
  .rw[aj h3]at h;exact absurd h h3
  rw[aa h3]at h
  by_cases h4:eT t.g0 t.g1 0 1000000=false
  .rw[aj h4]at h;cases h
  rw[aa h4]at h
  by_cases h5:eT t.l0 t.l1 0 1000000=false
  .rw[aj h5]at h;cases h
  rw[aa h5]at h;rcases bD.1 hs with rfl|hs
  .exact⟨by simpa using h1,RG (by simpa using h2),Gp (by simpa using h3),by simpa using h4,by simpa using h5⟩
  .exact vE h s hs
def qB{lo hi a b:Int}:eT lo hi a b=true↔a<=lo∧lo<=hi∧hi<=b:=by unfold eT;simp[and_assoc]
def CW{np:Nat}:∀{l:List jD},ku np l=0->∀s∈l,(0<=s.pile∧s.pile<=(np:Int)-1)∧eT s.lo s.hi 0 1000000=true
 | [],_=> λs hs=>by simp at hs
 |t::r,h=> λs hs=>by
  unfold ku at h
  by_cases h1:kH t.pile 0 ((np:Int)-1)=false
  .rw[aj h1]at h;cases h
  rw[aa h1]at h
  by_cases h2:eT t.lo t.hi 0 1000000=false
  .rw[aj h2]at h;cases h
  rw[aa h2]at h;rcases bD.1 hs with rfl|hs
  .refine⟨?_,by simpa using h2⟩;simp[kH]at h1;omega
  .exact CW h s hs
def EP{b:dO}(h:fG b=0):dP b.dJ 4=0∧dP b.dz 12=0∧fB b=0∧b.dA.length<=10∧ku b.dz.length b.dA=0:=by
 unfold fG at h
 by_cases h1:dP b.dJ 4≠0
 .rw[aj h1]at h;exact absurd h h1
 rw[aa h1]at h
 by_cases h2:dP b.dz 12≠0
 .rw[aj h2]at h;exact absurd h h2
 rw[aa h2]at h
 by_cases h3:fB b≠0
 .rw[aj h3]at h;exact absurd h h3
 rw[aa h3]at h
 by_cases h4:10<b.dA.length
 .rw[aj h4]at h;cases h
 rw[aa h4]at h;exact⟨by simpa using h1,by simpa using h2,by simpa using h3,by omega,h⟩
def CX{b:dO}(h:fB b=0):b.steps.length<=8∧(jr b.dJ.length b.dz.length b.steps [] []).1=0∧¬(jr b.dJ.length b.dz.length b.steps [] []).2.length<b.dz.length:=by
 unfold fB at h
 by_cases h1:8<b.steps.length
 .rw[aj h1]at h;cases h
 rw[aa h1]at h
 by_cases h2:(jr b.dJ.length b.dz.length b.steps [] []).1≠0
 .rw[aj h2]at h;exact absurd h h2
 rw[aa h2]at h
 by_cases h3:(jr b.dJ.length b.dz.length b.steps [] []).2.length<b.dz.length
 .rw[aj h3]at h;cases h
 exact⟨by omega,by simpa using h2,h3⟩
def tY{l:List ByteArray}{m:Nat}(h:dP l m=0):l.length<=m:=by
 unfold dP at h;split at h
 .cases h
 .omega
def lM{b:dO}(hs:b.small)(h:fG b=0):b.good:=by
 obtain⟨h1,h2,h3,h4,h5⟩:=EP h;obtain⟨k1,k2,_⟩:=CX h3;have l2:=tY h2;refine⟨hs,k1,l2, λs hx=>?_, λs hx=>?_, λs hx p hp=>?_, λs hx p hp=>?_⟩
 .obtain⟨_,x⟩:=CW h5 s hx;rw[qB]at x;omega
 .obtain⟨_,_,_,x,y⟩:=vE k2 s hx;rw[qB]at x y;omega
 .obtain⟨_,x,_⟩:=vE k2 s hx;have :=x p hp;omega
 .obtain⟨_,_,x,_⟩:=vE k2 s hx;have :=x p hp;omega
end
section
def OW{α:Type}(f:α->Bool)(l:List α)(k:Nat)(h:k<l.length):(l.drop k).any f=(f l[k]||(l.drop (k+1)).any f):=by rw[aV h];rfl
variable [Lo.St]
def Lo.vF(n l h:Int)(w:World):Calls Lo.prog 13 #[.int .i64 n,.int .i64 l,.int .i64 h] w λe w'=>e=.returned (.bool (kH n l h))∧w=w':=by
 obtain⟨U,U2,U3,U4,U5,U6⟩:=Lo.facts
 by_cases h1:l<=n
 .by_cases h2:n<=h
  .go_enter Lo.get Tryz.func13,Tryz.ntmps13;go_wp2;go_ret;exact⟨by simp[kH,h1,h2],rfl⟩
  .go_enter Lo.get Tryz.func13,Tryz.ntmps13;go_wp2;go_ret;exact⟨by simp[kH,h1,h2],rfl⟩
 .go_enter Lo.get Tryz.func13,Tryz.ntmps13;go_wp2;go_ret;exact⟨by simp[kH,h1];intro h;omega,rfl⟩
def OX(s:ByteArray){k:Nat}(h:k<s.size):(kZ s)[k]'(by rw[ni];exact h)=((s[k]'h).toNat:Int):=by unfold kZ;rw[List.getElem_map,Array.getElem_toList];rfl
end
section
variable [Lo.St]
def Lo.Jb:Lo.prog.underlying 98=some (.slice 122):=(Lo.underlying 98).trans (by kernel_rfl)
def Lo.Vk:(Lo.prog.info? 122).map (λi=>(i.zero,i.size,i.bytes))=some (some (.agg #[.int .i64 0,.int .i64 0,.int .i64 0,.int .i64 0]),4,32):=by rw[Lo.info];kernel_rfl
def Lo.CY:Lo.prog.underlying 115=some (.map 3 3):=(Lo.underlying 115).trans (by kernel_rfl)
def Lo.Gq:Lo.prog.underlying 3=some (.int .i64):=(Lo.underlying 3).trans (by kernel_rfl)
def Lo.RI:Keyed Lo.prog 3:=int_keyed Lo.Gq
def Lo.RJ(w:World):(Go.zeroValue 3).run Lo.prog w=.ok (.int .i64 0) w:=(Lo.zeroValue 3 w).trans (by kernel_rfl)
abbrev mI(w:World)(b n:Nat)(l:List (Int×Int)):Prop:=w.ownsMap Lo.prog 3 (plainElem Lo.prog 3) b n (yQ l)
def mI.up{w:World}{b n n':Nat}{l:List (Int×Int)}(h:mI w b n l)(hn:n<=n'):mI w b n' l:=World.ownsMap.mono h hn
def AJ(f:dW->List Int)(ss:List dW)(k:Nat)(h:k<ss.length):fP f ss (k+1)=fP f ss k++(f ss[k]).map λp=>(p,(k:Int)):=by show fP f ss k++_=_;rw[aN h]
def oF(f:dW->List Int)(ss:List dW)(k:Nat)(l:List Int)(j:Nat):List (Int×Int):=fP f ss k++(l.take j).map λp=>(p,(k:Int))
def yS(f:dW->List Int)(ss:List dW)(k:Nat)(l:List Int):oF f ss k l 0=fP f ss k:=by simp[oF]
def yT(f:dW->List Int)(ss:List dW)(k:Nat)(l:List Int)(j:Nat)(h:j<l.length):oF f ss k l (j+1)=oF f ss k l j++ [(l[j],(k:Int))]:=by unfold oF;rw[bu h,List.map_append,List.append_assoc];rfl
def AL(f:dW->List Int)(ss:List dW)(k:Nat)(l:List Int):oF f ss k l l.length=fP f ss k++l.map λp=>(p,(k:Int)):=by simp[oF]
def WT{w1:World}{b n:Nat}{l:List (Int×Int)}{p i:Int}(h:w1.ownsMap Lo.prog 3 (plainElem Lo.prog 3) b (n+1) ((yQ l).put (kI p) (vI i))):mI w1 b (n+1) (l++ [(p,i)]):=by show w1.ownsMap _ _ _ _ _ (yQ _);rw[zO];exact h
def KV{w:World}{b:Nat}{x y:Value}{t:TypeId}(h:w.heap[b]?=some (.cells #[x,y] t)):w.cell? ⟨b,0,none⟩=some x∧w.cell? ⟨b,1,none⟩=some y∧w.frozen? ⟨b,0,none⟩=false∧w.frozen? ⟨b,1,none⟩=false:=by unfold World.cell? World.frozen?;simp only[h];exact⟨rfl,rfl,rfl,rfl⟩
def Vl{w:World}{b:Nat}{x y x' y':Value}{t:TypeId}(h:w.heap[b]?=some (.cells #[x,y] t)):((w.setCell ⟨b,0,none⟩ x').setCell ⟨b,1,none⟩ y').heap[b]?=some (.cells #[x',y'] t):=
 heap_setCell_same _ b 1 _ _ y' (heap_setCell_same w b 0 _ _ x' h)
def iG{w:World}{b:Nat}{x y z:Value}{t:TypeId}(h:w.heap[b]?=some (.cells #[x,y,z] t)):w.cell? ⟨b,0,none⟩=some x∧w.cell? ⟨b,1,none⟩=some y∧w.cell? ⟨b,2,none⟩=some z∧w.frozen? ⟨b,0,none⟩=false∧w.frozen? ⟨b,1,none⟩=false∧w.frozen? ⟨b,2,none⟩=false:=by unfold World.cell? World.frozen?;simp only[h];exact⟨rfl,rfl,rfl,rfl,rfl,rfl⟩
def KX{w:World}{b:Nat}{x y z x':Value}{t:TypeId}(h:w.heap[b]?=some (.cells #[x,y,z] t)):(w.setCell ⟨b,0,none⟩ x').heap[b]?=some (.cells #[x',y,z] t):=heap_setCell_same w b 0 _ _ x' h
def KY{w:World}{b:Nat}{x y z z':Value}{t:TypeId}(h:w.heap[b]?=some (.cells #[x,y,z] t)):(w.setCell ⟨b,2,none⟩ z').heap[b]?=some (.cells #[x,y,z'] t):=heap_setCell_same w b 2 _ _ z' h
def iW(ss:List eX):List Value:=ss.flatMap λx=>[.int .i64 x.lo,.int .i64 x.hi,.int .i64 (x.fr:Int),.int .i64 (x.to:Int)]
structure fQ(w:World)(b base:Nat)(n nd:Int)(ss:List eX)(v:Value):Prop where
 blk:w.heap[b]?=some (.cells #[v,.int .i64 n,.int .i64 nd] 100)
 row:w.ownsRow base 122 4 v ss.length (iW ss)
 pl:cS.dU w v
def yU(b:dO)(k:Nat):eG b (k+1)=eG b k++ [mh b k]:=by unfold eG;rw[List.range_succ,List.map_append];rfl
def gU(b:dO)(k:Nat):(eG b k).length=k:=by simp[eG]
def fQ.step{w1:World}{b base g cap m:Nat}{n nd:Int}{ss news:List eX}{v:Value}(hw:w1.heap[b]?=some (.cells #[v,.int .i64 n,.int .i64 nd] 100))(hrow:w1.ownsRow base 122 4 (.slice (some ⟨g,0,none⟩) m cap) m (iW ss++iW news))(hm:m=ss.length+news.length)
 (hp:cS.dU w1 (.slice (some ⟨g,0,none⟩) m cap)) (hbg:b<base):fQ (w1.setCell ⟨b,0,none⟩ (.slice (some ⟨g,0,none⟩) m cap)) b base n nd (ss++news) (.slice (some ⟨g,0,none⟩) m cap):=by
 have hg:=hrow.lt g rfl;have hne:g≠b:=by omega
 refine⟨KX hw,?_,hp.keep λg' hg'=>Below.heap_setCell _ _ _ _ ?_⟩
 .have e:iW (ss++news)=iW ss++iW news:=by simp[iW]
  rw[e,List.length_append, <-hm];exact hrow.kept (lK _ _ _ _) (.inr (by simp[Value.ownBlock];exact hne))
 .have:g=g':=by simpa[Value.ownBlock]using hg'
  subst this;exact hne
def MO{wr w1:World}{o:Obj}{b base:Nat}{n nd:Int}{ss:List eX}{v1:Value}(h:fQ wr b base n nd ss v1)(hg:(wr.drew.alloc o).grownBy w1 v1.ownBlock)(hb:b<wr.heap.size)(hbb:b<base):w1.heap[b]?=some (.cells #[v1,.int .i64 n,.int .i64 nd] 100):=by refine(hg.block b (by simp;omega) λe=>?_).trans ((cZ wr.drew o b hb).trans h.blk);have :=(h.row.lt b e.symm).1;omega
def Jc{wr w1:World}{o:Obj}{b base:Nat}{n nd:Int}{ss:List eX}{v1:Value}(h:fQ wr b base n nd ss v1)(hg:(wr.alloc o).grownBy w1 v1.ownBlock)(hb:b<wr.heap.size)(hbb:b<base):w1.heap[b]?=some (.cells #[v1,.int .i64 n,.int .i64 nd] 100):=by refine(hg.block b (by simp;omega) λe=>?_).trans ((cZ wr o b hb).trans h.blk);have :=(h.row.lt b e.symm).1;omega
def fQ.below{w w':World}{b base n0:Nat}{n nd:Int}{ss:List eX}{v:Value}(h:fQ w b base n nd ss v)(hb:Below n0 w w')(hn:n0=w.heap.size)(hbw:b<w.heap.size):fQ w' b base n nd ss v:=by subst hn;exact⟨(hb.block b hbw).trans h.blk,ownsRow.below h.row hb,h.pl.keep λg hg=>hb.block g (h.row.lt g hg).2⟩
def fQ.alloc{w:World}{b base:Nat}{n nd:Int}{ss:List eX}{v:Value}(h:fQ w b base n nd ss v)(hbw:b<w.heap.size)(o:Obj):fQ (w.alloc o) b base n nd ss v:=⟨(cZ _ _ _ hbw).trans h.blk,h.row.alloc _,h.pl.alloc _⟩
def step_cells{n k:Nat}{hand tv:Int}{s:dW}(h:(if s.hand=hand then((n+1:Nat):Int)else(n:Int))=tv): [Value.int .i64 s.g0,.int .i64 s.g1,.int .i64 (n:Int),.int .i64 (k:Int),.int .i64 s.l0,.int .i64 s.l1,.int .i64 (k:Int),.int .i64 tv]=iW (nT n hand k s):=by subst h;simp only[iW,nT,List.flatMap_cons,List.flatMap_nil,List.append_nil,List.cons_append,List.nil_append];split<;>rfl
def RL(nr:Nat)(s:dW)(w:World):Prop:=w.cell? ⟨nr,3,none⟩=some (.int .i64 s.g0)∧w.cell? ⟨nr,3+1,none⟩=some (.int .i64 s.g1)∧w.cell? ⟨nr,5,none⟩=some (.int .i64 s.l0)∧w.cell? ⟨nr,5+1,none⟩=some (.int .i64 s.l1)
def RL.keep{nr:Nat}{s:dW}{w w':World}(h:RL nr s w)(hk:w'.heap[nr]?=w.heap[nr]?):RL nr s w':=by obtain⟨a,b,c,d⟩:=h;exact⟨(dm hk).trans a,(dm hk).trans b,(dm hk).trans c,(dm hk).trans d⟩
def Vm(w:World)(b:dO)(hand:Int)(e:Ending)(w':World):Prop:=∃bw v,e=.returned (.pointer (some ⟨bw,0,none⟩))∧w.heap.size<=bw∧bw<w'.heap.size∧fQ w' bw w.heap.size b.steps.length (dZ b hand) (fA b hand) v∧Below w.heap.size w w'
def ownsRow.base{w:World}{base base' e size n:Nat}{v:Value}{xs:List Value}(h:w.ownsRow base e size v n xs)(hb:base'<=base):w.ownsRow base' e size v n xs:=by obtain⟨h1,h2⟩:=h;refine⟨h1,h2.imp id ?_⟩;rintro⟨g,cap,cur,a,b,c⟩;exact⟨g,cap,cur,a,aS hb b,c⟩
def fQ.base{w:World}{b base base':Nat}{n nd:Int}{ss:List eX}{v:Value}(h:fQ w b base n nd ss v)(hb:base'<=base):fQ w b base' n nd ss v:=⟨h.blk,ownsRow.base h.row hb,h.pl⟩
def CZ{i:Int}(h:0<=i):Value.int .i64 ((i.toNat:Nat):Int)=.int .i64 i:=by rw[Int.toNat_of_nonneg h]
def C9{b:dO}{k:Nat}{x:Int×Int}{cm tv:Int}(h:mh b k=⟨x.1,x.2,cm.toNat,tv.toNat⟩)(h1:0<=cm)(h2:0<=tv): [Value.int .i64 x.1,.int .i64 x.2,.int .i64 cm,.int .i64 tv]=iW [mh b k]:=by rw[h];simp only[iW,List.flatMap_cons,List.flatMap_nil,List.append_nil];rw[CZ h1,CZ h2]
def AO(K:Act->World->Prop):Exit->Act->World->Prop
 | .normal,a,w=>K a w
 |_,_,_=>False
def AO.imp{Q:Exit->Act->World->Prop}:∀(e:Exit)(a:Act)(w:World),AO (λa w=>Q .normal a w) e a w->Q e a w:= λe a w h=>by cases e<;>first|exact h|exact(h:False).elim
def Jd{P:Program}{c:Code}{Q:Exit->Act->World->Prop}{a:Act}{w:World}{A:Act}(R:World->Prop)(h1:∀K:Act->World->Prop,(∀w1,R w1->K A w1)->Code.wp P c (AO K) a w)(h2:∀w1,R w1->Q .normal A w1):Code.wp P c Q a w:=Code.wp_mono AO.imp (h1 _ h2)
def AP{P:Program}{c:Code}{Q:Exit->Act->World->Prop}{a:Act}{w:World}{A:Nat->Nat->Act}(R:Nat->Nat->World->Prop)(h1:∀K:Act->World->Prop,(∀g cap w1,R g cap w1->K (A g cap) w1)->Code.wp P c (AO K) a w)(h2:∀g cap w1,R g cap w1->Q .normal (A g cap) w1):Code.wp P c Q a w:=Code.wp_mono AO.imp (h1 _ h2)
def AQ{P:Program}{c:Code}{Q:Exit->Act->World->Prop}{a:Act}{w:World}{A:Nat->Nat->Nat->Act}(R:Nat->Nat->Nat->World->Prop)(h1:∀K:Act->World->Prop,(∀g cap q w1,R g cap q w1->K (A g cap q) w1)->Code.wp P c (AO K) a w)(h2:∀g cap q w1,R g cap q w1->Q .normal (A g cap q) w1):Code.wp P c Q a w:=Code.wp_mono AO.imp (h1 _ h2)
def ao4(sc:List jD)(p:Int)(k:Nat)(h:k<sc.length):je (sc.take (k+1)) p=PU p (je (sc.take k) p) sc[k]:=by unfold je;rw[bu h,List.foldl_append];rfl
end
end Go.Proofs
