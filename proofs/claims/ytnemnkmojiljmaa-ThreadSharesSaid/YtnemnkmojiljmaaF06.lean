/- Part 6. -/
import Derived.Maps.OwnSet
import Derived.Maps.OwnOps
import Derived.Deep.RegionLaw
import Derived.Deep.AppendLies
import Derived.Test.YtnemnkmojiljmaaF05
set_option maxRecDepth 100000
set_option maxHeartbeats 8000000
set_option linter.all false
section
namespace Go.Proofs
open Go Go.RowKit Go.Maps
structure dK where
 hand:Int
 ins:List Int
 outs:List Int
 g0:Int
 g1:Int
 l0:Int
 l1:Int
structure rz where
 pile:Int
 lo:Int
 hi:Int
structure dz where
 hands:List ByteArray
 bP:List ByteArray
 steps:List dK
 bT:List rz
structure NG where
 a1:Option Addr
 c1:Nat
 a2:Option Addr
 c2:Nat
structure iQ where
 ah:Option Addr
 ch:Nat
 ap:Option Addr
 cp:Nat
 jU:Option Addr
 cs:Nat
 ac:Option Addr
 cc:Nat
 sv:Nat->NG
def dK.cells (s:dK) (p:NG):Nat->Value
 |0=>.int .i64 s.hand
 |1=>.slice p.a1 s.ins.length p.c1
 |2=>.slice p.a2 s.outs.length p.c2
 |3=>.int .i64 s.g0
 |4=>.int .i64 s.g1
 |5=>.int .i64 s.l0
 |_=>.int .i64 s.l1
def rz.cells (s:rz):Nat->Value
 |0=>.int .i64 s.pile
 |1=>.int .i64 s.lo
 |_=>.int .i64 s.hi
def LC (ss:List dK) (sv:Nat->NG) (i j:Nat):Value:=((ss[i]?).getD ⟨0,[],[],0,0,0,0⟩).cells (sv i) j
def Ab (ss:List rz) (i j:Nat):Value:=((ss[i]?).getD ⟨0,0,0⟩).cells j
def dN (b:dz) (v:iQ):Value:=.agg #[.slice v.ah b.hands.length v.ch,.slice v.ap b.bP.length v.cp,.slice v.jU b.steps.length v.cs,.slice v.ac b.bT.length v.cc]
theorem sj {a b c:World} {row row':Option Nat} (h:a.grownBy b row) (k:b.grownBy c row') (hr:∀j,row'=some j->a.heap.size<=j∨row=some j):a.grownBy c row:=
 ⟨k.os.trans h.os,k.tape.trans h.tape,k.output.trans h.output,aC h.size k.size, λi hi hne=>(k.block i (ak hi h.size) λe=>(hr i e.symm).elim (λx=>absurd x (Nat.not_le.2 hi)) λx=>hne x.symm).trans (h.block i hi hne)⟩
theorem below_grown {w w':World} {n:Nat} (h:Below n w w') (hn:n=w.heap.size) (row:Option Nat):w.grownBy w' row:=⟨h.os,h.tape,h.output,h.size, λi hi _=>h.block i (hn ▸ hi)⟩
theorem LD (w:World) (row:Option Nat):w.grownBy w.drew row:=⟨rfl,rfl,rfl,aj _, λ_ _ _=>rfl⟩
theorem mG (w:World) (b o:Nat) (v:Value):w.grownBy (w.setCell ⟨b,o,none⟩ v) (some b):=⟨rfl,rfl,rfl,by simp [World.setCell], λi _ hne=>Below.heap_setCell w _ v i (λe=>hne (by rw [e]))⟩
theorem su (w:World) (r:Option Nat):w.grownBy w r:=⟨rfl,rfl,rfl,aj _, λ_ _ _=>rfl⟩
variable [Lo.St]
structure eT (w:World) (B:Nat) (b:dz) (v:iQ):Prop where
 hands:NF w B v.ah b.hands
 bP:NF w B v.ap b.bP
 steps:Rd w B 7 v.jU b.steps.length (LC b.steps v.sv)
 ins:∀i s,b.steps[i]?=some s->zT w B (v.sv i).a1 s.ins
 outs:∀i s,b.steps[i]?=some s->zT w B (v.sv i).a2 s.outs
 bT:Rd w B 3 v.ac b.bT.length (Ab b.bT)
 lh:b.hands.length<=v.ch
 lp:b.bP.length<=v.cp
 ls:b.steps.length<=v.cs
 lc:b.bT.length<=v.cc
theorem eT.keep {w w':World} {B:Nat} {b:dz} {v:iQ} (h:eT w B b v) (hk:∀b o,b<B->w'.cell? ⟨b,o,none⟩=w.cell? ⟨b,o,none⟩):eT w' B b v:=
 ⟨h.hands.keep hk,h.bP.keep hk,h.steps.keep hk, λi s e=>(h.ins i s e).keep hk, λi s e=>(h.outs i s e).keep hk,h.bT.keep hk,h.lh,h.lp,h.ls,h.lc⟩
structure dz.small (b:dz):Prop where
 hands:b.hands.length<=64
 bP:b.bP.length<=64
 steps:b.steps.length<=64
 bT:b.bT.length<=64
 ins:∀s∈b.steps,s.ins.length<=64
 outs:∀s∈b.steps,s.outs.length<=64
theorem Ir {w:World} {bb off k:Nat} {ss:List dK} {sv:Nat->NG} (hc:∀i j,i<ss.length->j<7->w.cell? ⟨bb,off+(i*7+j),none⟩=some (LC ss sv i j)) (hlt:k<ss.length):
 w.cell? ⟨bb,off+k*7,none⟩=some (.int .i64 ss[k].hand)∧w.cell? ⟨bb,off+k*7+1,none⟩=some (.slice (sv k).a1 ss[k].ins.length (sv k).c1)∧w.cell? ⟨bb,off+k*7+2,none⟩=some (.slice (sv k).a2 ss[k].outs.length (sv k).c2)∧
 w.cell? ⟨bb,off+k*7+3,none⟩=some (.int .i64 ss[k].g0)∧w.cell? ⟨bb,off+k*7+4,none⟩=some (.int .i64 ss[k].g1)∧w.cell? ⟨bb,off+k*7+5,none⟩=some (.int .i64 ss[k].l0)∧w.cell? ⟨bb,off+k*7+6,none⟩=some (.int .i64 ss[k].l1):=by
 have e:∀j,j<7->w.cell? ⟨bb,off+(k*7+j),none⟩=some (ss[k].cells (sv k) j):= λj hj=>by
  rw [hc k j hlt hj];unfold LC;rw [ax hlt];rfl
 exact ⟨e 0 (by omega),e 1 (by omega),e 2 (by omega),e 3 (by omega),e 4 (by omega),e 5 (by omega),e 6 (by omega)⟩
theorem JC {w:World} {bb off k:Nat} {ss:List rz} (hc:∀i j,i<ss.length->j<3->w.cell? ⟨bb,off+(i*3+j),none⟩=some (Ab ss i j)) (hlt:k<ss.length):
 w.cell? ⟨bb,off+k*3,none⟩=some (.int .i64 ss[k].pile)∧w.cell? ⟨bb,off+k*3+1,none⟩=some (.int .i64 ss[k].lo)∧w.cell? ⟨bb,off+k*3+2,none⟩=some (.int .i64 ss[k].hi):=by
 have e:∀j,j<3->w.cell? ⟨bb,off+(k*3+j),none⟩=some (ss[k].cells j):= λj hj=>by
  rw [hc k j hlt hj];unfold Ab;rw [ax hlt];rfl
 exact ⟨e 0 (by omega),e 1 (by omega),e 2 (by omega)⟩
theorem DY {w:World} {bb off k:Nat} {l:List Int} (hc:∀i j,i<l.length->j<1->w.cell? ⟨bb,off+(i*1+j),none⟩=some (.int .i64 ((l[i]?).getD 0))) (hlt:k<l.length):w.cell? ⟨bb,off+k,none⟩=some (.int .i64 l[k]):=by
 have :=hc k 0 hlt (by omega);rw [Nat.mul_one,Nat.add_zero] at this;rw [this,ax hlt];rfl
abbrev kI (p:Int):Lit:=.int .i64 p
abbrev vI (p:Int):DataW Unit:=.lit (.int .i64 p)
def Ac (l:List (Int×Int)):DataW Unit:=l.foldl (λm x=>m.put (kI x.1) (vI x.2)) (.map [])
def lastOf (l:List (Int×Int)) (p:Int):Option Int:=l.foldl (λm x=>if x.1=p then some x.2 else m) none
theorem Bv (l:List (Int×Int)) (p i:Int):Ac (l++ [(p,i)])=(Ac l).put (kI p) (vI i):=by simp [Ac,List.foldl_append]
theorem xz (l:List (Int×Int)) (p i q:Int):lastOf (l++ [(p,i)]) q=if p=q then some i else lastOf l q:=by simp [lastOf,List.foldl_append]
theorem Iu (p:Int):WideAt.IsKeyLit (kI p):=by
 first |exact .inr ⟨_,_,rfl⟩|exact ⟨_,_,rfl⟩|trivial|(unfold WideAt.IsKeyLit;simp [kI])
theorem Iw {p q:Int} (h:p≠q):kI p≠kI q:= λe=>h (by cases e;rfl)
theorem JD (l:List (Int×Int)):IsMap (Ac l):=by
 unfold Ac
 have :∀(l:List (Int×Int)) (D:DataW Unit),IsMap D->IsMap (l.foldl (λm x=>m.put (kI x.1) (vI x.2)) D):=by
  intro l
  induction l with
  |nil=>intro D h;exact h
  |cons x l ih=>intro D h;exact ih _ (h.put _ _)
 exact this l _ isMap_empty
theorem xA {α:Type} {P:List α->Prop} (h0:P []) (h1:∀l x,P l->P (l++ [x])) (l:List α):P l:=by
 have :∀n (l:List α),l.length=n->P l:=by
  intro n
  induction n with
  |zero=>intro l hl;rw [List.length_eq_zero_iff.1 hl];exact h0
  |succ n ih=>
   intro l hl;have hne:l≠ []:=by intro e;rw [e] at hl;cases hl
   rw [<-List.dropLast_concat_getLast hne];exact h1 _ _ (ih _ (by rw [List.length_dropLast,hl];rfl))
 exact this _ l rfl
theorem NH (l:List (Int×Int)) (q:Int) (z:Int):(Ac l).atKey (kI q) (vI z)=vI ((lastOf l q).getD z):=by
 induction l using xA with
 |h0=>rfl
 |h1 l x ih=>
  obtain ⟨p,i⟩:=x;rw [Bv,xz]
  by_cases h:p=q
  ·subst h;rw [if_pos rfl,atKey_put_same (JD l) (Iu p)];rfl
  ·rw [if_neg h,atKey_put_other (Iw (Ne.symm h)),ih]
theorem Rt (l:List (Int×Int)) (q:Int):Maps.has (Ac l) (kI q)=(lastOf l q).isSome:=by
 induction l using xA with
 |h0=>rfl
 |h1 l x ih=>
  obtain ⟨p,i⟩:=x;rw [Bv,xz]
  by_cases h:p=q
  ·subst h;rw [if_pos rfl,has_put_same (JD l) (Iu p)];rfl
  ·rw [if_neg h,has_put_other (Iw (Ne.symm h)),ih]
theorem Ru {a b:Int} (h:vI a=vI b):a=b:=by cases h;rfl
theorem wfI {p:Int} (h1: -9223372036854775808<=p) (h2:p<=9223372036854775807):(Lit.int .i64 p).wf=true:=WalkArith.wf_i64 ⟨h1,h2⟩
def eu (f:dK->List Int) (ss:List dK):Nat->List (Int×Int)
 |0=>[]
 |k+1=>eu f ss k++(match ss[k]? with |some s=>(f s).map λp=>(p,(k:Int))|none=>[])
def uu (ss:List dK) (p:Int):Option Int:=lastOf (eu dK.ins ss ss.length) p
def vS (ss:List dK) (p:Int):Int:=(lastOf (eu dK.outs ss ss.length) p).getD 0
theorem zg (f:dK->List Int) (ss:List dK):∀k,∀x∈eu f ss k,0<=x.2∧x.2<k
 |0=> λx h=>by simp [eu] at h
 |k+1=> λx h=>by
  unfold eu at h;rcases List.mem_append.1 h with h|h
  ·have :=zg f ss k x h;omega
  ·cases e:ss[k]? with
   |none=>rw [e] at h;simp at h
   |some s=>rw [e] at h;simp at h;obtain ⟨p,_,rfl⟩:=h;dsimp only;omega
theorem DZ (l:List (Int×Int)) (p:Int) {i:Int} (h:lastOf l p=some i):(p,i)∈l:=by
 induction l using xA with
 |h0=>cases h
 |h1 l x ih=>
  obtain ⟨q,j⟩:=x;rw [xz] at h;split at h
  ·rename_i e;cases h;subst e;simp
  ·exact List.mem_append_left _ (ih h)
def bd1 (p:Int) (x:Int×Int) (s:rz):Int×Int:=if s.pile=p then (max x.1 s.lo,min x.2 s.hi) else x
def ku (sc:List rz) (p:Int):Int×Int:=sc.foldl (bd1 p) (0,1000000)
def qN (b:dz) (p:Nat):dL:=⟨(ku b.bT p).1,(ku b.bT p).2,(vS b.steps p).toNat,((uu b.steps p).getD b.steps.length).toNat⟩
def qO (n:Nat) (hand:Int) (i:Nat) (s:dK):List dL:=[⟨s.g0,s.g1,n,i⟩,⟨s.l0,s.l1,i,if s.hand=hand then n+1 else n⟩]
def dA (b:dz) (k:Nat):List dL:=(List.range k).map (qN b)
def dR (b:dz) (hand:Int):Nat->List dL
 |0=>[]
 |k+1=>dR b hand k++(match b.steps[k]? with |some s=>qO b.steps.length hand k s|none=>[])
def dP (b:dz) (hand:Int):List dL:=
 dA b b.bP.length++dR b hand b.steps.length++(if 0<=hand then [⟨0,8000000,b.steps.length+1,b.steps.length⟩] else [])
def dw (b:dz) (hand:Int):Nat:=if 0<=hand then b.steps.length+2 else b.steps.length+1
structure dz.good (b:dz):Prop extends b.small where
 n8:b.steps.length<=8
 p12:b.bP.length<=12
 sc:∀s∈b.bT,0<=s.lo∧s.lo<=1000000∧0<=s.hi∧s.hi<=1000000
 st:∀s∈b.steps,0<=s.g0∧s.g0<=1000000∧0<=s.g1∧s.g1<=1000000∧0<=s.l0∧s.l0<=1000000∧0<=s.l1∧s.l1<=1000000
 ki:∀s∈b.steps,∀p∈s.ins, -9223372036854775808<=p∧p<=9223372036854775807
 ko:∀s∈b.steps,∀p∈s.outs, -9223372036854775808<=p∧p<=9223372036854775807
theorem ae3 (sc:List rz) (p:Int) (h:∀s∈sc,0<=s.lo∧s.lo<=1000000∧0<=s.hi∧s.hi<=1000000):0<=(ku sc p).1∧(ku sc p).1<=1000000∧0<=(ku sc p).2∧(ku sc p).2<=1000000:=by
 induction sc using xA with
 |h0=>simp [ku]
 |h1 l s ih=>
  have ih:=ih λs hs=>h s (List.mem_append_left _ hs)
  obtain ⟨a1,a2,a3,a4⟩:=h s (by simp);unfold ku at ih ⊢;rw [List.foldl_append];simp only [List.foldl_cons,List.foldl_nil];generalize l.foldl (bd1 p) (0,1000000)=x at ih;unfold bd1;split
  ·refine ⟨?_,?_,?_,?_⟩<;>dsimp only <;>omega
  ·exact ih
theorem NI (ss:List dK) (p:Int):0<=vS ss p∧vS ss p<=ss.length:=by
 unfold vS;cases h:lastOf (eu dK.outs ss ss.length) p with
 |none=>simp
 |some i=>
  have :=zg _ _ _ _ (DZ _ _ h);dsimp only at this;simp only [Option.getD_some];omega
theorem Rv (ss:List dK) (p:Int):0<=(uu ss p).getD ss.length∧(uu ss p).getD ss.length<=ss.length:=by
 unfold uu;cases h:lastOf (eu dK.ins ss ss.length) p with
 |none=>simp
 |some i=>
  have :=zg _ _ _ _ (DZ _ _ h);dsimp only at this;simp only [Option.getD_some];omega
theorem Ct (b:dz) (hand:Int) (hg:b.good):∀k,∀x∈dR b hand k,x.ok
 |0=> λx h=>by simp [dR] at h
 |k+1=> λx h=>by
  unfold dR at h;rcases List.mem_append.1 h with h|h
  ·exact Ct b hand hg k x h
  ·cases e:b.steps[k]? with
   |none=>rw [e] at h;simp at h
   |some s=>
    rw [e] at h;have hk:=(aJ.1 e).1;obtain ⟨a1,a2,a3,a4,a5,a6,a7,a8⟩:=hg.st s (List.mem_of_getElem? e);have :=hg.n8;simp only [qO,aT,List.not_mem_nil,or_false] at h;rcases h with rfl|rfl
    ·refine ⟨?_,?_,?_,?_,?_,?_⟩<;>dsimp only <;>omega
    ·refine ⟨?_,?_,?_,?_,?_,?_⟩<;>dsimp only <;>(try split)<;>omega
theorem tJ (b:dz) (hand:Int):∀k,k<=b.steps.length->(dR b hand k).length=2*k
 |0,_=>rfl
 |k+1,h=>by
  unfold dR;rw [ax h,List.length_append,tJ b hand k (by omega)];simp [qO];omega
theorem JE (b:dz) (hg:b.good) (p:Nat):(qN b p).ok:=by
 obtain ⟨a1,a2,a3,a4⟩:=ae3 b.bT p hg.sc;have h1:=NI b.steps p;have h2:=Rv b.steps p;have :=hg.n8;exact ⟨a1,by show (ku b.bT p).1<=8000000;omega,a3,by show (ku b.bT p).2<=8000000;omega,by show (vS b.steps p).toNat<64;omega,by show ((uu b.steps p).getD b.steps.length).toNat<64;omega⟩
theorem NJ (b:dz) (hand:Int) (hg:b.good):∀x∈dP b hand,x.ok:=by
 intro x hx;unfold dP at hx;rcases List.mem_append.1 hx with hx|hx
 ·rcases List.mem_append.1 hx with hx|hx
  ·obtain ⟨p,_,rfl⟩:=List.mem_map.1 hx;exact JE b hg p
  ·exact Ct b hand hg _ x hx
 ·split at hx
  ·have :=hg.n8;simp at hx;subst hx
   exact ⟨by simp,by simp,by simp,by simp,by dsimp only;omega,by dsimp only;omega⟩
  ·simp at hx
theorem Ae (b:dz) (hand:Int):(dP b hand).length=b.bP.length+2*b.steps.length+(if 0<=hand then 1 else 0):=by
 unfold dP dA;rw [List.length_append,List.length_append,tJ b hand _ (aj _)];simp only [List.length_map,List.length_range];congr 1;split<;>rfl
end Go.Proofs
end
section
namespace Go.Proofs
open Go Go.RowKit Go.Maps
variable [Lo.St]
theorem Lo.JF:Lo.prog.underlying 94=some (.slice 113):=(Lo.underlying 94).trans (by kernel_rfl)
theorem Lo.Vq:(Lo.prog.info? 113).map (λi=>(i.zero,i.size,i.bytes))=some (some (.agg #[.int .i64 0,.int .i64 0,.int .i64 0,.int .i64 0]),4,32):=by
 rw [Lo.info];kernel_rfl
theorem Lo.D5:Lo.prog.underlying 106=some (.map 3 3):=(Lo.underlying 106).trans (by kernel_rfl)
theorem Lo.Iy:Lo.prog.underlying 3=some (.int .i64):=(Lo.underlying 3).trans (by kernel_rfl)
theorem Lo.Rw:Keyed Lo.prog 3:=int_keyed Lo.Iy
theorem Lo.Rx (w:World):(Go.zeroValue 3).run Lo.prog w= .ok (.int .i64 0) w:=(Lo.zeroValue 3 w).trans (by kernel_rfl)
abbrev mI (w:World) (b n:Nat) (l:List (Int×Int)):Prop:=w.ownsMap Lo.prog 3 (plainElem Lo.prog 3) b n (Ac l)
theorem mI.up {w:World} {b n n':Nat} {l:List (Int×Int)} (h:mI w b n l) (hn:n<=n'):mI w b n' l:=World.ownsMap.mono h hn
theorem Cu (f:dK->List Int) (ss:List dK) (k:Nat) (h:k<ss.length):eu f ss (k+1)=eu f ss k++(f ss[k]).map λp=>(p,(k:Int)):=by
 show eu f ss k++_=_;rw [ax h]
def rE (f:dK->List Int) (ss:List dK) (k:Nat) (l:List Int) (j:Nat):List (Int×Int):=eu f ss k++(l.take j).map λp=>(p,(k:Int))
theorem Af (f:dK->List Int) (ss:List dK) (k:Nat) (l:List Int):rE f ss k l 0=eu f ss k:=by simp [rE]
theorem Ah (f:dK->List Int) (ss:List dK) (k:Nat) (l:List Int) (j:Nat) (h:j<l.length):rE f ss k l (j+1)=rE f ss k l j++ [(l[j],(k:Int))]:=by
 unfold rE;rw [aP h,List.map_append,List.append_assoc];rfl
theorem Cv (f:dK->List Int) (ss:List dK) (k:Nat) (l:List Int):rE f ss k l l.length=eu f ss k++l.map λp=>(p,(k:Int)):=by simp [rE]
theorem Xw {w1:World} {b n:Nat} {l:List (Int×Int)} {p i:Int} (h:w1.ownsMap Lo.prog 3 (plainElem Lo.prog 3) b (n+1) ((Ac l).put (kI p) (vI i))):mI w1 b (n+1) (l++ [(p,i)]):=by
 show w1.ownsMap _ _ _ _ _ (Ac _);rw [Bv];exact h
theorem LF {w:World} {b:Nat} {x y:Value} {t:TypeId} (h:w.heap[b]?=some (.cells #[x,y] t)):w.cell? ⟨b,0,none⟩=some x∧w.cell? ⟨b,1,none⟩=some y∧w.frozen? ⟨b,0,none⟩=false∧w.frozen? ⟨b,1,none⟩=false:=by
 unfold World.cell? World.frozen?;simp only [h];exact ⟨rfl,rfl,rfl,rfl⟩
theorem Vr {w:World} {b:Nat} {x y x' y':Value} {t:TypeId} (h:w.heap[b]?=some (.cells #[x,y] t)):((w.setCell ⟨b,0,none⟩ x').setCell ⟨b,1,none⟩ y').heap[b]?=some (.cells #[x',y'] t):=
 heap_setCell_same _ b 1 _ _ y' (heap_setCell_same w b 0 _ _ x' h)
theorem iK {w:World} {b:Nat} {x y z:Value} {t:TypeId} (h:w.heap[b]?=some (.cells #[x,y,z] t)):w.cell? ⟨b,0,none⟩=some x∧w.cell? ⟨b,1,none⟩=some y∧w.cell? ⟨b,2,none⟩=some z∧w.frozen? ⟨b,0,none⟩=false∧w.frozen? ⟨b,1,none⟩=false∧w.frozen? ⟨b,2,none⟩=false:=by
 unfold World.cell? World.frozen?;simp only [h];exact ⟨rfl,rfl,rfl,rfl,rfl,rfl⟩
theorem LH {w:World} {b:Nat} {x y z x':Value} {t:TypeId} (h:w.heap[b]?=some (.cells #[x,y,z] t)):(w.setCell ⟨b,0,none⟩ x').heap[b]?=some (.cells #[x',y,z] t):=heap_setCell_same w b 0 _ _ x' h
theorem LJ {w:World} {b:Nat} {x y z z':Value} {t:TypeId} (h:w.heap[b]?=some (.cells #[x,y,z] t)):(w.setCell ⟨b,2,none⟩ z').heap[b]?=some (.cells #[x,y,z'] t):=heap_setCell_same w b 2 _ _ z' h
def cellsS (ss:List dL):List Value:=ss.flatMap λx=>[.int .i64 x.lo,.int .i64 x.hi,.int .i64 (x.fr:Int),.int .i64 (x.to:Int)]
structure eB (w:World) (b base:Nat) (n nd:Int) (ss:List dL) (v:Value):Prop where
 blk:w.heap[b]?=some (.cells #[v,.int .i64 n,.int .i64 nd] 96)
 row:w.ownsRow base 113 4 v ss.length (cellsS ss)
 pl:Par.dh w v
theorem Ai (b:dz) (k:Nat):dA b (k+1)=dA b k++ [qN b k]:=by unfold dA;rw [List.range_succ,List.map_append];rfl
theorem gX (b:dz) (k:Nat):(dA b k).length=k:=by simp [dA]
theorem eB.step {w1:World} {b base g cap m:Nat} {n nd:Int} {ss news:List dL} {v:Value} (hw:w1.heap[b]?=some (.cells #[v,.int .i64 n,.int .i64 nd] 96)) (hrow:w1.ownsRow base 113 4 (.slice (some ⟨g,0,none⟩) m cap) m (cellsS ss++cellsS news)) (hm:m=ss.length+news.length)
 (hp:Par.dh w1 (.slice (some ⟨g,0,none⟩) m cap)) (hbg:b<base):eB (w1.setCell ⟨b,0,none⟩ (.slice (some ⟨g,0,none⟩) m cap)) b base n nd (ss++news) (.slice (some ⟨g,0,none⟩) m cap):=by
 have hg:=hrow.lt g rfl;have hne:g≠b:=by omega
 refine ⟨LH hw,?_,hp.keep λg' hg'=>Below.heap_setCell _ _ _ _ ?_⟩
 ·have e:cellsS (ss++news)=cellsS ss++cellsS news:=by simp [cellsS]
  rw [e,List.length_append, <-hm];exact hrow.kept (mG _ _ _ _) (.inr (by simp [Value.ownBlock];exact hne))
 ·have :g=g':=by simpa [Value.ownBlock] using hg'
  subst this;exact hne
theorem NK {wr w1:World} {o:Obj} {b base:Nat} {n nd:Int} {ss:List dL} {v1:Value} (h:eB wr b base n nd ss v1) (hg:(wr.drew.alloc o).grownBy w1 v1.ownBlock) (hb:b<wr.heap.size) (hbb:b<base):w1.heap[b]?=some (.cells #[v1,.int .i64 n,.int .i64 nd] 96):=by
 refine (hg.block b (by simp;omega) λe=>?_).trans ((Below.heap_alloc wr.drew o b hb).trans h.blk);have :=(h.row.lt b e.symm).1;omega
theorem JG {wr w1:World} {o:Obj} {b base:Nat} {n nd:Int} {ss:List dL} {v1:Value} (h:eB wr b base n nd ss v1) (hg:(wr.alloc o).grownBy w1 v1.ownBlock) (hb:b<wr.heap.size) (hbb:b<base):w1.heap[b]?=some (.cells #[v1,.int .i64 n,.int .i64 nd] 96):=by
 refine (hg.block b (by simp;omega) λe=>?_).trans ((Below.heap_alloc wr o b hb).trans h.blk);have :=(h.row.lt b e.symm).1;omega
theorem eB.below {w w':World} {b base n0:Nat} {n nd:Int} {ss:List dL} {v:Value} (h:eB w b base n nd ss v) (hb:Below n0 w w') (hn:n0=w.heap.size) (hbw:b<w.heap.size):eB w' b base n nd ss v:=by
 subst hn;exact ⟨(hb.block b hbw).trans h.blk,ownsRow.below h.row hb,h.pl.keep λg hg=>hb.block g (h.row.lt g hg).2⟩
theorem eB.alloc {w:World} {b base:Nat} {n nd:Int} {ss:List dL} {v:Value} (h:eB w b base n nd ss v) (hbw:b<w.heap.size) (o:Obj):eB (w.alloc o) b base n nd ss v:=⟨(Below.heap_alloc _ _ _ hbw).trans h.blk,h.row.alloc _,h.pl.alloc _⟩
theorem step_cells {n k:Nat} {hand tv:Int} {s:dK} (h:(if s.hand=hand then ((n+1:Nat):Int) else (n:Int))=tv): [Value.int .i64 s.g0,.int .i64 s.g1,.int .i64 (n:Int),.int .i64 (k:Int),.int .i64 s.l0,.int .i64 s.l1,.int .i64 (k:Int),.int .i64 tv]=cellsS (qO n hand k s):=by
 subst h;simp only [cellsS,qO,List.flatMap_cons,List.flatMap_nil,List.append_nil,List.cons_append,List.nil_append];split<;>rfl
def Ry (nr:Nat) (s:dK) (w:World):Prop:=w.cell? ⟨nr,3,none⟩=some (.int .i64 s.g0)∧w.cell? ⟨nr,3+1,none⟩=some (.int .i64 s.g1)∧w.cell? ⟨nr,5,none⟩=some (.int .i64 s.l0)∧w.cell? ⟨nr,5+1,none⟩=some (.int .i64 s.l1)
theorem Ry.keep {nr:Nat} {s:dK} {w w':World} (h:Ry nr s w) (hk:w'.heap[nr]?=w.heap[nr]?):Ry nr s w':=by
 obtain ⟨a,b,c,d⟩:=h;exact ⟨(World.cell?_of_block hk).trans a,(World.cell?_of_block hk).trans b,(World.cell?_of_block hk).trans c,(World.cell?_of_block hk).trans d⟩
def Vs (w:World) (b:dz) (hand:Int) (e:Ending) (w':World):Prop:=∃bw v,e= .returned (.pointer (some ⟨bw,0,none⟩))∧w.heap.size<=bw∧bw<w'.heap.size∧eB w' bw w.heap.size b.steps.length (dw b hand) (dP b hand) v∧Below w.heap.size w w'
theorem ownsRow.base {w:World} {base base' e size n:Nat} {v:Value} {xs:List Value} (h:w.ownsRow base e size v n xs) (hb:base'<=base):w.ownsRow base' e size v n xs:=by
 obtain ⟨h1,h2⟩:=h;refine ⟨h1,h2.imp id ?_⟩;rintro ⟨g,cap,cur,a,b,c⟩;exact ⟨g,cap,cur,a,aC hb b,c⟩
theorem eB.base {w:World} {b base base':Nat} {n nd:Int} {ss:List dL} {v:Value} (h:eB w b base n nd ss v) (hb:base'<=base):eB w b base' n nd ss v:=⟨h.blk,ownsRow.base h.row hb,h.pl⟩
theorem D6 {i:Int} (h:0<=i):Value.int .i64 ((i.toNat:Nat):Int)= .int .i64 i:=by rw [Int.toNat_of_nonneg h]
theorem D7 {b:dz} {k:Nat} {x:Int×Int} {cm tv:Int} (h:qN b k=⟨x.1,x.2,cm.toNat,tv.toNat⟩) (h1:0<=cm) (h2:0<=tv): [Value.int .i64 x.1,.int .i64 x.2,.int .i64 cm,.int .i64 tv]=cellsS [qN b k]:=by
 rw [h];simp only [cellsS,List.flatMap_cons,List.flatMap_nil,List.append_nil];rw [D6 h1,D6 h2]
def Cw (K:Act->World->Prop):Exit->Act->World->Prop
 | .normal,a,w=>K a w
 |_,_,_=>False
theorem Cw.imp {Q:Exit->Act->World->Prop}:∀(e:Exit) (a:Act) (w:World),Cw (λa w=>Q .normal a w) e a w->Q e a w:= λe a w h=>by
 cases e<;>first |exact h|exact (h:False).elim
theorem JH {P:Program} {c:Code} {Q:Exit->Act->World->Prop} {a:Act} {w:World} {A:Act} (R:World->Prop) (h1:∀K:Act->World->Prop,(∀w1,R w1->K A w1)->Code.wp P c (Cw K) a w) (h2:∀w1,R w1->Q .normal A w1):Code.wp P c Q a w:=Code.wp_mono Cw.imp (h1 _ h2)
theorem Cx {P:Program} {c:Code} {Q:Exit->Act->World->Prop} {a:Act} {w:World} {A:Nat->Nat->Act} (R:Nat->Nat->World->Prop) (h1:∀K:Act->World->Prop,(∀g cap w1,R g cap w1->K (A g cap) w1)->Code.wp P c (Cw K) a w) (h2:∀g cap w1,R g cap w1->Q .normal (A g cap) w1):Code.wp P c Q a w:=Code.wp_mono Cw.imp (h1 _ h2)
theorem Cy {P:Program} {c:Code} {Q:Exit->Act->World->Prop} {a:Act} {w:World} {A:Nat->Nat->Nat->Act} (R:Nat->Nat->Nat->World->Prop) (h1:∀K:Act->World->Prop,(∀g cap q w1,R g cap q w1->K (A g cap q) w1)->Code.wp P c (Cw K) a w) (h2:∀g cap q w1,R g cap q w1->Q .normal (A g cap q) w1):Code.wp P c Q a w:=Code.wp_mono Cw.imp (h1 _ h2)
theorem ao1 (sc:List rz) (p:Int) (k:Nat) (h:k<sc.length):ku (sc.take (k+1)) p=bd1 p (ku (sc.take k) p) sc[k]:=by
 unfold ku;rw [aP h,List.foldl_append];rfl
end Go.Proofs
end
