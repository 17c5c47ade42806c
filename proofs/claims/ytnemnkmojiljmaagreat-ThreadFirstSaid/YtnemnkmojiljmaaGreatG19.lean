/- Part 19. -/
import Derived.Maps.OwnSet
import Derived.Deep.RegionLaw
import Derived.Deep.AppendLies
import Derived.Test.YtnemnkmojiljmaaGreatG18
set_option maxRecDepth 100000
set_option maxHeartbeats 0
set_option linter.all false
namespace Go.Proofs
open Go Go.RowKit Go.Maps
section
structure eY where
 hand:Int
 ins:List Int
 outs:List Int
 g0:Int
 g1:Int
 l0:Int
 l1:Int
structure lW where
 pile:Int
 lo:Int
 hi:Int
structure dY where
 dR:List ByteArray
 dF:List ByteArray
 steps:List eY
 dJ:List lW
structure Qq where
 a1:Option Addr
 c1:Nat
 a2:Option Addr
 c2:Nat
structure gK where
 ah:Option Addr
 ch:Nat
 ap:Option Addr
 cp:Nat
 jY:Option Addr
 cs:Nat
 ac:Option Addr
 cc:Nat
 sv:Nat->Qq
def eY.cells (s:eY) (p:Qq):Nat->Value
 |0=>.int .i64 s.hand
 |1=>.slice p.a1 s.ins.length p.c1
 |2=>.slice p.a2 s.outs.length p.c2
 |3=>.int .i64 s.g0
 |4=>.int .i64 s.g1
 |5=>.int .i64 s.l0
 |_=>.int .i64 s.l1
def lW.cells (s:lW):Nat->Value
 |0=>.int .i64 s.pile
 |1=>.int .i64 s.lo
 |_=>.int .i64 s.hi
def KX (ss:List eY) (sv:Nat->Qq) (i j:Nat):Value:=((ss[i]?).getD ⟨0,[],[],0,0,0,0⟩).cells (sv i) j
def Ak (ss:List lW) (i j:Nat):Value:=((ss[i]?).getD ⟨0,0,0⟩).cells j
def eH (b:dY) (v:gK):Value:=.agg #[.slice v.ah b.dR.length v.ch,.slice v.ap b.dF.length v.cp,.slice v.jY b.steps.length v.cs,.slice v.ac b.dJ.length v.cc]
theorem vB {a b c:World} {row row':Option Nat} (h:a.grownBy b row) (k:b.grownBy c row') (hr:∀j,row'=some j->a.heap.size<=j∨row=some j):a.grownBy c row:=
 ⟨k.os.trans h.os,k.tape.trans h.tape,k.output.trans h.output,aT h.size k.size, λi hi hne=>(k.block i (aK hi h.size) λe=>(hr i e.symm).elim (λx=>absurd x (Nat.not_le.2 hi)) λx=>hne x.symm).trans (h.block i hi hne)⟩
theorem below_grown {w w':World} {n:Nat} (h:Below n w w') (hn:n=w.heap.size) (row:Option Nat):w.grownBy w' row:=⟨h.os,h.tape,h.output,h.size, λi hi _=>h.block i (hn ▸ hi)⟩
theorem OQ (w:World) (row:Option Nat):w.grownBy w.drew row:=⟨rfl,rfl,rfl,aJ _, λ_ _ _=>rfl⟩
theorem pq (w:World) (b o:Nat) (v:Value):w.grownBy (w.setCell ⟨b,o,none⟩ v) (some b):=⟨rfl,rfl,rfl,by simp [World.setCell], λi _ hne=>Below.heap_setCell w _ v i (λe=>hne (by rw [e]))⟩
theorem vC (w:World) (r:Option Nat):w.grownBy w r:=⟨rfl,rfl,rfl,aJ _, λ_ _ _=>rfl⟩
variable [Lo.St]
structure fJ (w:World) (B:Nat) (b:dY) (v:gK):Prop where
 dR:KU w B v.ah b.dR
 dF:KU w B v.ap b.dF
 steps:Rd w B 7 v.jY b.steps.length (KX b.steps v.sv)
 ins:∀i s,b.steps[i]?=some s->Cn w B (v.sv i).a1 s.ins
 outs:∀i s,b.steps[i]?=some s->Cn w B (v.sv i).a2 s.outs
 dJ:Rd w B 3 v.ac b.dJ.length (Ak b.dJ)
 lh:b.dR.length<=v.ch
 lp:b.dF.length<=v.cp
 ls:b.steps.length<=v.cs
 lc:b.dJ.length<=v.cc
theorem fJ.keep {w w':World} {B:Nat} {b:dY} {v:gK} (h:fJ w B b v) (hk:∀b o,b<B->w'.cell? ⟨b,o,none⟩=w.cell? ⟨b,o,none⟩):fJ w' B b v:=
 ⟨h.dR.keep hk,h.dF.keep hk,h.steps.keep hk, λi s e=>(h.ins i s e).keep hk, λi s e=>(h.outs i s e).keep hk,h.dJ.keep hk,h.lh,h.lp,h.ls,h.lc⟩
structure dY.small (b:dY):Prop where
 dR:b.dR.length<=64
 dF:b.dF.length<=64
 steps:b.steps.length<=64
 dJ:b.dJ.length<=64
 ins:∀s∈b.steps,s.ins.length<=64
 outs:∀s∈b.steps,s.outs.length<=64
theorem yL {w:World} {bb off k:Nat} {ss:List eY} {sv:Nat->Qq} (hc:∀i j,i<ss.length->j<7->w.cell? ⟨bb,off+(i*7+j),none⟩=some (KX ss sv i j)) (hlt:k<ss.length):
 w.cell? ⟨bb,off+k*7,none⟩=some (.int .i64 ss[k].hand)∧w.cell? ⟨bb,off+k*7+1,none⟩=some (.slice (sv k).a1 ss[k].ins.length (sv k).c1)∧w.cell? ⟨bb,off+k*7+2,none⟩=some (.slice (sv k).a2 ss[k].outs.length (sv k).c2)∧
 w.cell? ⟨bb,off+k*7+3,none⟩=some (.int .i64 ss[k].g0)∧w.cell? ⟨bb,off+k*7+4,none⟩=some (.int .i64 ss[k].g1)∧w.cell? ⟨bb,off+k*7+5,none⟩=some (.int .i64 ss[k].l0)∧w.cell? ⟨bb,off+k*7+6,none⟩=some (.int .i64 ss[k].l1):=by
 have e:∀j,j<7->w.cell? ⟨bb,off+(k*7+j),none⟩=some (ss[k].cells (sv k) j):= λj hj=>by
  rw [hc k j hlt hj];unfold KX;rw [aO hlt];rfl
 exact ⟨e 0 (by omega),e 1 (by omega),e 2 (by omega),e 3 (by omega),e 4 (by omega),e 5 (by omega),e 6 (by omega)⟩
theorem Hq {w:World} {bb off k:Nat} {ss:List lW} (hc:∀i j,i<ss.length->j<3->w.cell? ⟨bb,off+(i*3+j),none⟩=some (Ak ss i j)) (hlt:k<ss.length):
 w.cell? ⟨bb,off+k*3,none⟩=some (.int .i64 ss[k].pile)∧w.cell? ⟨bb,off+k*3+1,none⟩=some (.int .i64 ss[k].lo)∧w.cell? ⟨bb,off+k*3+2,none⟩=some (.int .i64 ss[k].hi):=by
 have e:∀j,j<3->w.cell? ⟨bb,off+(k*3+j),none⟩=some (ss[k].cells j):= λj hj=>by
  rw [hc k j hlt hj];unfold Ak;rw [aO hlt];rfl
 exact ⟨e 0 (by omega),e 1 (by omega),e 2 (by omega)⟩
theorem KY {w:World} {bb off k:Nat} {l:List Int} (hc:∀i j,i<l.length->j<1->w.cell? ⟨bb,off+(i*1+j),none⟩=some (.int .i64 ((l[i]?).getD 0))) (hlt:k<l.length):w.cell? ⟨bb,off+k,none⟩=some (.int .i64 l[k]):=by
 have :=hc k 0 hlt (by omega);rw [Nat.mul_one,aH] at this;rw [this,aO hlt];rfl
abbrev kI (p:Int):Lit:=.int .i64 p
abbrev vI (p:Int):DataW Unit:=.lit (.int .i64 p)
def Dj (l:List (Int×Int)):DataW Unit:=l.foldl (λm x=>m.put (kI x.1) (vI x.2)) (.map [])
def vM (l:List (Int×Int)) (p:Int):Option Int:=l.foldl (λm x=>if x.1=p then some x.2 else m) none
theorem Em (l:List (Int×Int)) (p i:Int):Dj (l++ [(p,i)])=(Dj l).put (kI p) (vI i):=by simp [Dj,List.foldl_append]
theorem zL (l:List (Int×Int)) (p i q:Int):vM (l++ [(p,i)]) q=if p=q then some i else vM l q:=by simp [vM,List.foldl_append]
theorem KZ (p:Int):WideAt.IsKeyLit (kI p):=by
 first |exact .inr ⟨_,_,rfl⟩|exact ⟨_,_,rfl⟩|trivial|(unfold WideAt.IsKeyLit;simp [kI])
theorem K3 {p q:Int} (h:p≠q):kI p≠kI q:= λe=>h (by cases e;rfl)
theorem M0 (l:List (Int×Int)):IsMap (Dj l):=by
 unfold Dj
 have :∀(l:List (Int×Int)) (D:DataW Unit),IsMap D->IsMap (l.foldl (λm x=>m.put (kI x.1) (vI x.2)) D):=by
  intro l
  induction l with
  |nil=>intro D h;exact h
  |cons x l ih=>intro D h;exact ih _ (h.put _ _)
 exact this l _ isMap_empty
theorem zM {α:Type} {P:List α->Prop} (h0:P []) (h1:∀l x,P l->P (l++ [x])) (l:List α):P l:=by
 have :∀n (l:List α),l.length=n->P l:=by
  intro n
  induction n with
  |zero=>intro l hl;rw [List.length_eq_zero_iff.1 hl];exact h0
  |succ n ih=>
   intro l hl;have hne:l≠ []:=by intro e;rw [e] at hl;cases hl
   rw [<-List.dropLast_concat_getLast hne];exact h1 _ _ (ih _ (by rw [List.length_dropLast,hl];rfl))
 exact this _ l rfl
theorem Qr (l:List (Int×Int)) (q:Int) (z:Int):(Dj l).atKey (kI q) (vI z)=vI ((vM l q).getD z):=by
 induction l using zM with
 |h0=>rfl
 |h1 l x ih=>
  obtain ⟨p,i⟩:=x;rw [Em,zL]
  by_cases h:p=q
  ·subst h;rw [aj rfl,atKey_put_same (M0 l) (KZ p)];rfl
  ·rw [aa h,atKey_put_other (K3 (Ne.symm h)),ih]
theorem Vz (l:List (Int×Int)) (q:Int):Maps.has (Dj l) (kI q)=(vM l q).isSome:=by
 induction l using zM with
 |h0=>rfl
 |h1 l x ih=>
  obtain ⟨p,i⟩:=x;rw [Em,zL]
  by_cases h:p=q
  ·subst h;rw [aj rfl,has_put_same (M0 l) (KZ p)];rfl
  ·rw [aa h,has_put_other (K3 (Ne.symm h)),ih]
theorem VA {a b:Int} (h:vI a=vI b):a=b:=by cases h;rfl
theorem wfI {p:Int} (h1: -9223372036854775808<=p) (h2:p<=9223372036854775807):(Lit.int .i64 p).wf=true:=WalkArith.wf_i64 ⟨h1,h2⟩
def gB (f:eY->List Int) (ss:List eY):Nat->List (Int×Int)
 |0=>[]
 |k+1=>gB f ss k++(match ss[k]? with |some s=>(f s).map λp=>(p,(k:Int))|none=>[])
def wP (ss:List eY) (p:Int):Option Int:=vM (gB eY.ins ss ss.length) p
def yM (ss:List eY) (p:Int):Int:=(vM (gB eY.outs ss ss.length) p).getD 0
theorem BV (f:eY->List Int) (ss:List eY):∀k,∀x∈gB f ss k,0<=x.2∧x.2<k
 |0=> λx h=>by simp [gB] at h
 |k+1=> λx h=>by
  unfold gB at h;rcases List.mem_append.1 h with h|h
  ·have :=BV f ss k x h;omega
  ·cases e:ss[k]? with
   |none=>rw [e] at h;simp at h
   |some s=>rw [e] at h;simp at h;obtain ⟨p,_,rfl⟩:=h;dsimp only;omega
theorem Hr (l:List (Int×Int)) (p:Int) {i:Int} (h:vM l p=some i):(p,i)∈l:=by
 induction l using zM with
 |h0=>cases h
 |h1 l x ih=>
  obtain ⟨q,j⟩:=x;rw [zL] at h;split at h
  ·rename_i e;cases h;subst e;simp
  ·exact List.mem_append_left _ (ih h)
def TP (p:Int) (x:Int×Int) (s:lW):Int×Int:=if s.pile=p then (max x.1 s.lo,min x.2 s.hi) else x
def lG (sc:List lW) (p:Int):Int×Int:=sc.foldl (TP p) (0,1000000)
def p9 (b:dY) (p:Nat):fG:=⟨(lG b.dJ p).1,(lG b.dJ p).2,(yM b.steps p).toNat,((wP b.steps p).getD b.steps.length).toNat⟩
def uh (n:Nat) (hand:Int) (i:Nat) (s:eY):List fG:=[⟨s.g0,s.g1,n,i⟩,⟨s.l0,s.l1,i,if s.hand=hand then n+1 else n⟩]
def fq (b:dY) (k:Nat):List fG:=(List.range k).map (p9 b)
def fU (b:dY) (hand:Int):Nat->List fG
 |0=>[]
 |k+1=>fU b hand k++(match b.steps[k]? with |some s=>uh b.steps.length hand k s|none=>[])
def fQ (b:dY) (hand:Int):List fG:=
 fq b b.dF.length++fU b hand b.steps.length++(if 0<=hand then [⟨0,8000000,b.steps.length+1,b.steps.length⟩] else [])
def fe (b:dY) (hand:Int):Nat:=if 0<=hand then b.steps.length+2 else b.steps.length+1
structure dY.good (b:dY):Prop extends b.small where
 n8:b.steps.length<=8
 p12:b.dF.length<=12
 sc:∀s∈b.dJ,0<=s.lo∧s.lo<=1000000∧0<=s.hi∧s.hi<=1000000
 st:∀s∈b.steps,0<=s.g0∧s.g0<=1000000∧0<=s.g1∧s.g1<=1000000∧0<=s.l0∧s.l0<=1000000∧0<=s.l1∧s.l1<=1000000
 ki:∀s∈b.steps,∀p∈s.ins, -9223372036854775808<=p∧p<=9223372036854775807
 ko:∀s∈b.steps,∀p∈s.outs, -9223372036854775808<=p∧p<=9223372036854775807
theorem ap8 (sc:List lW) (p:Int) (h:∀s∈sc,0<=s.lo∧s.lo<=1000000∧0<=s.hi∧s.hi<=1000000):0<=(lG sc p).1∧(lG sc p).1<=1000000∧0<=(lG sc p).2∧(lG sc p).2<=1000000:=by
 induction sc using zM with
 |h0=>simp [lG]
 |h1 l s ih=>
  have ih:=ih λs hs=>h s (List.mem_append_left _ hs)
  obtain ⟨a1,a2,a3,a4⟩:=h s (by simp);unfold lG at ih ⊢;rw [List.foldl_append];simp only [List.foldl_cons,List.foldl_nil];generalize l.foldl (TP p) (0,1000000)=x at ih;unfold TP;split
  ·refine ⟨?_,?_,?_,?_⟩<;>dsimp only <;>omega
  ·exact ih
theorem Qs (ss:List eY) (p:Int):0<=yM ss p∧yM ss p<=ss.length:=by
 unfold yM;cases h:vM (gB eY.outs ss ss.length) p with
 |none=>simp
 |some i=>
  have :=BV _ _ _ _ (Hr _ _ h);dsimp only at this;simp only [ak];omega
theorem VB (ss:List eY) (p:Int):0<=(wP ss p).getD ss.length∧(wP ss p).getD ss.length<=ss.length:=by
 unfold wP;cases h:vM (gB eY.ins ss ss.length) p with
 |none=>simp
 |some i=>
  have :=BV _ _ _ _ (Hr _ _ h);dsimp only at this;simp only [ak];omega
theorem EX (b:dY) (hand:Int) (hg:b.good):∀k,∀x∈fU b hand k,x.ok
 |0=> λx h=>by simp [fU] at h
 |k+1=> λx h=>by
  unfold fU at h;rcases List.mem_append.1 h with h|h
  ·exact EX b hand hg k x h
  ·cases e:b.steps[k]? with
   |none=>rw [e] at h;simp at h
   |some s=>
    rw [e] at h;have hk:=(bg.1 e).1;obtain ⟨a1,a2,a3,a4,a5,a6,a7,a8⟩:=hg.st s (List.mem_of_getElem? e);have :=hg.n8;simp only [uh,bF,ax,or_false] at h;rcases h with rfl|rfl
    ·refine ⟨?_,?_,?_,?_,?_,?_⟩<;>dsimp only <;>omega
    ·refine ⟨?_,?_,?_,?_,?_,?_⟩<;>dsimp only <;>(try split)<;>omega
theorem wB (b:dY) (hand:Int):∀k,k<=b.steps.length->(fU b hand k).length=2*k
 |0,_=>rfl
 |k+1,h=>by
  unfold fU;rw [aO h,List.length_append,wB b hand k (by omega)];simp [uh];omega
theorem M3 (b:dY) (hg:b.good) (p:Nat):(p9 b p).ok:=by
 obtain ⟨a1,a2,a3,a4⟩:=ap8 b.dJ p hg.sc;have h1:=Qs b.steps p;have h2:=VB b.steps p;have :=hg.n8;exact ⟨a1,by show (lG b.dJ p).1<=8000000;omega,a3,by show (lG b.dJ p).2<=8000000;omega,by show (yM b.steps p).toNat<64;omega,by show ((wP b.steps p).getD b.steps.length).toNat<64;omega⟩
theorem Qt (b:dY) (hand:Int) (hg:b.good):∀x∈fQ b hand,x.ok:=by
 intro x hx;unfold fQ at hx;rcases List.mem_append.1 hx with hx|hx
 ·rcases List.mem_append.1 hx with hx|hx
  ·obtain ⟨p,_,rfl⟩:=List.mem_map.1 hx;exact M3 b hg p
  ·exact EX b hand hg _ x hx
 ·split at hx
  ·have :=hg.n8;simp at hx;subst hx
   exact ⟨by simp,by simp,by simp,by simp,by dsimp only;omega,by dsimp only;omega⟩
  ·simp at hx
theorem Dk (b:dY) (hand:Int):(fQ b hand).length=b.dF.length+2*b.steps.length+(if 0<=hand then 1 else 0):=by
 unfold fQ fq;rw [List.length_append,List.length_append,wB b hand _ (aJ _)];simp only [List.length_map,List.length_range];congr 1;split<;>rfl
end
section
variable [Lo.St]
theorem Lo.M4:Lo.prog.underlying 112=some (.slice 142):=(Lo.underlying 112).trans (by kernel_rfl)
theorem Lo.YG:(Lo.prog.info? 142).map (λi=>(i.zero,i.size,i.bytes))=some (some (.agg #[.int .i64 0,.int .i64 0,.int .i64 0,.int .i64 0]),4,32):=by
 rw [Lo.info];kernel_rfl
theorem Lo.Ht:Lo.prog.underlying 135=some (.map 3 3):=(Lo.underlying 135).trans (by kernel_rfl)
theorem Lo.K4:Lo.prog.underlying 3=some (.int .i64):=(Lo.underlying 3).trans (by kernel_rfl)
theorem Lo.VC:Keyed Lo.prog 3:=int_keyed Lo.K4
theorem Lo.VD (w:World):(Go.zeroValue 3).run Lo.prog w= .ok (.int .i64 0) w:=(Lo.zeroValue 3 w).trans (by kernel_rfl)
abbrev mI (w:World) (b n:Nat) (l:List (Int×Int)):Prop:=w.ownsMap Lo.prog 3 (plainElem Lo.prog 3) b n (Dj l)
theorem mI.up {w:World} {b n n':Nat} {l:List (Int×Int)} (h:mI w b n l) (hn:n<=n'):mI w b n' l:=World.ownsMap.mono h hn
theorem EY (f:eY->List Int) (ss:List eY) (k:Nat) (h:k<ss.length):gB f ss (k+1)=gB f ss k++(f ss[k]).map λp=>(p,(k:Int)):=by
 show gB f ss k++_=_;rw [aO h]
def uE (f:eY->List Int) (ss:List eY) (k:Nat) (l:List Int) (j:Nat):List (Int×Int):=gB f ss k++(l.take j).map λp=>(p,(k:Int))
theorem Dl (f:eY->List Int) (ss:List eY) (k:Nat) (l:List Int):uE f ss k l 0=gB f ss k:=by simp [uE]
theorem Dm (f:eY->List Int) (ss:List eY) (k:Nat) (l:List Int) (j:Nat) (h:j<l.length):uE f ss k l (j+1)=uE f ss k l j++ [(l[j],(k:Int))]:=by
 unfold uE;rw [bB h,List.map_append,List.append_assoc];rfl
theorem EZ (f:eY->List Int) (ss:List eY) (k:Nat) (l:List Int):uE f ss k l l.length=gB f ss k++l.map λp=>(p,(k:Int)):=by simp [uE]
theorem aa1 {w1:World} {b n:Nat} {l:List (Int×Int)} {p i:Int} (h:w1.ownsMap Lo.prog 3 (plainElem Lo.prog 3) b (n+1) ((Dj l).put (kI p) (vI i))):mI w1 b (n+1) (l++ [(p,i)]):=by
 show w1.ownsMap _ _ _ _ _ (Dj _);rw [Em];exact h
theorem OT {w:World} {b:Nat} {x y:Value} {t:TypeId} (h:w.heap[b]?=some (.cells #[x,y] t)):w.cell? ⟨b,0,none⟩=some x∧w.cell? ⟨b,1,none⟩=some y∧w.frozen? ⟨b,0,none⟩=false∧w.frozen? ⟨b,1,none⟩=false:=by
 unfold World.cell? World.frozen?;simp only [h];exact ⟨rfl,rfl,rfl,rfl⟩
theorem YH {w:World} {b:Nat} {x y x' y':Value} {t:TypeId} (h:w.heap[b]?=some (.cells #[x,y] t)):((w.setCell ⟨b,0,none⟩ x').setCell ⟨b,1,none⟩ y').heap[b]?=some (.cells #[x',y'] t):=
 heap_setCell_same _ b 1 _ _ y' (heap_setCell_same w b 0 _ _ x' h)
theorem jT {w:World} {b:Nat} {x y z:Value} {t:TypeId} (h:w.heap[b]?=some (.cells #[x,y,z] t)):w.cell? ⟨b,0,none⟩=some x∧w.cell? ⟨b,1,none⟩=some y∧w.cell? ⟨b,2,none⟩=some z∧w.frozen? ⟨b,0,none⟩=false∧w.frozen? ⟨b,1,none⟩=false∧w.frozen? ⟨b,2,none⟩=false:=by
 unfold World.cell? World.frozen?;simp only [h];exact ⟨rfl,rfl,rfl,rfl,rfl,rfl⟩
theorem OU {w:World} {b:Nat} {x y z x':Value} {t:TypeId} (h:w.heap[b]?=some (.cells #[x,y,z] t)):(w.setCell ⟨b,0,none⟩ x').heap[b]?=some (.cells #[x',y,z] t):=heap_setCell_same w b 0 _ _ x' h
theorem OV {w:World} {b:Nat} {x y z z':Value} {t:TypeId} (h:w.heap[b]?=some (.cells #[x,y,z] t)):(w.setCell ⟨b,2,none⟩ z').heap[b]?=some (.cells #[x,y,z'] t):=heap_setCell_same w b 2 _ _ z' h
def kW (ss:List fG):List Value:=ss.flatMap λx=>[.int .i64 x.lo,.int .i64 x.hi,.int .i64 (x.fr:Int),.int .i64 (x.to:Int)]
structure gD (w:World) (b base:Nat) (n nd:Int) (ss:List fG) (v:Value):Prop where
 blk:w.heap[b]?=some (.cells #[v,.int .i64 n,.int .i64 nd] 114)
 row:w.ownsRow base 142 4 v ss.length (kW ss)
 pl:Par.eU w v
theorem Dn (b:dY) (k:Nat):fq b (k+1)=fq b k++ [p9 b k]:=by unfold fq;rw [List.range_succ,List.map_append];rfl
theorem jw (b:dY) (k:Nat):(fq b k).length=k:=by simp [fq]
theorem gD.step {w1:World} {b base g cap m:Nat} {n nd:Int} {ss news:List fG} {v:Value} (hw:w1.heap[b]?=some (.cells #[v,.int .i64 n,.int .i64 nd] 114)) (hrow:w1.ownsRow base 142 4 (.slice (some ⟨g,0,none⟩) m cap) m (kW ss++kW news)) (hm:m=ss.length+news.length)
 (hp:Par.eU w1 (.slice (some ⟨g,0,none⟩) m cap)) (hbg:b<base):gD (w1.setCell ⟨b,0,none⟩ (.slice (some ⟨g,0,none⟩) m cap)) b base n nd (ss++news) (.slice (some ⟨g,0,none⟩) m cap):=by
 have hg:=hrow.lt g rfl;have hne:g≠b:=by omega
 refine ⟨OU hw,?_,hp.keep λg' hg'=>Below.heap_setCell _ _ _ _ ?_⟩
 ·have e:kW (ss++news)=kW ss++kW news:=by simp [kW]
  rw [e,List.length_append, <-hm];exact hrow.kept (pq _ _ _ _) (.inr (by simp [Value.ownBlock];exact hne))
 ·have :g=g':=by simpa [Value.ownBlock] using hg'
  subst this;exact hne
theorem Qu {wr w1:World} {o:Obj} {b base:Nat} {n nd:Int} {ss:List fG} {v1:Value} (h:gD wr b base n nd ss v1) (hg:(wr.drew.alloc o).grownBy w1 v1.ownBlock) (hb:b<wr.heap.size) (hbb:b<base):w1.heap[b]?=some (.cells #[v1,.int .i64 n,.int .i64 nd] 114):=by
 refine (hg.block b (by simp;omega) λe=>?_).trans ((dw wr.drew o b hb).trans h.blk);have :=(h.row.lt b e.symm).1;omega
theorem M5 {wr w1:World} {o:Obj} {b base:Nat} {n nd:Int} {ss:List fG} {v1:Value} (h:gD wr b base n nd ss v1) (hg:(wr.alloc o).grownBy w1 v1.ownBlock) (hb:b<wr.heap.size) (hbb:b<base):w1.heap[b]?=some (.cells #[v1,.int .i64 n,.int .i64 nd] 114):=by
 refine (hg.block b (by simp;omega) λe=>?_).trans ((dw wr o b hb).trans h.blk);have :=(h.row.lt b e.symm).1;omega
theorem gD.below {w w':World} {b base n0:Nat} {n nd:Int} {ss:List fG} {v:Value} (h:gD w b base n nd ss v) (hb:Below n0 w w') (hn:n0=w.heap.size) (hbw:b<w.heap.size):gD w' b base n nd ss v:=by
 subst hn;exact ⟨(hb.block b hbw).trans h.blk,ownsRow.below h.row hb,h.pl.keep λg hg=>hb.block g (h.row.lt g hg).2⟩
theorem gD.alloc {w:World} {b base:Nat} {n nd:Int} {ss:List fG} {v:Value} (h:gD w b base n nd ss v) (hbw:b<w.heap.size) (o:Obj):gD (w.alloc o) b base n nd ss v:=⟨(dw _ _ _ hbw).trans h.blk,h.row.alloc _,h.pl.alloc _⟩
theorem step_cells {n k:Nat} {hand tv:Int} {s:eY} (h:(if s.hand=hand then ((n+1:Nat):Int) else (n:Int))=tv): [Value.int .i64 s.g0,.int .i64 s.g1,.int .i64 (n:Int),.int .i64 (k:Int),.int .i64 s.l0,.int .i64 s.l1,.int .i64 (k:Int),.int .i64 tv]=kW (uh n hand k s):=by
 subst h;simp only [kW,uh,List.flatMap_cons,List.flatMap_nil,List.append_nil,List.cons_append,List.nil_append];split<;>rfl
def VE (nr:Nat) (s:eY) (w:World):Prop:=w.cell? ⟨nr,3,none⟩=some (.int .i64 s.g0)∧w.cell? ⟨nr,3+1,none⟩=some (.int .i64 s.g1)∧w.cell? ⟨nr,5,none⟩=some (.int .i64 s.l0)∧w.cell? ⟨nr,5+1,none⟩=some (.int .i64 s.l1)
theorem VE.keep {nr:Nat} {s:eY} {w w':World} (h:VE nr s w) (hk:w'.heap[nr]?=w.heap[nr]?):VE nr s w':=by
 obtain ⟨a,b,c,d⟩:=h;exact ⟨(dA hk).trans a,(dA hk).trans b,(dA hk).trans c,(dA hk).trans d⟩
def YI (w:World) (b:dY) (hand:Int) (e:Ending) (w':World):Prop:=∃bw v,e= .returned (.pointer (some ⟨bw,0,none⟩))∧w.heap.size<=bw∧bw<w'.heap.size∧gD w' bw w.heap.size b.steps.length (fe b hand) (fQ b hand) v∧Below w.heap.size w w'
theorem ownsRow.base {w:World} {base base' e size n:Nat} {v:Value} {xs:List Value} (h:w.ownsRow base e size v n xs) (hb:base'<=base):w.ownsRow base' e size v n xs:=by
 obtain ⟨h1,h2⟩:=h;refine ⟨h1,h2.imp id ?_⟩;rintro ⟨g,cap,cur,a,b,c⟩;exact ⟨g,cap,cur,a,aT hb b,c⟩
theorem gD.base {w:World} {b base base':Nat} {n nd:Int} {ss:List fG} {v:Value} (h:gD w b base n nd ss v) (hb:base'<=base):gD w b base' n nd ss v:=⟨h.blk,ownsRow.base h.row hb,h.pl⟩
theorem Hu {i:Int} (h:0<=i):Value.int .i64 ((i.toNat:Nat):Int)= .int .i64 i:=by rw [Int.toNat_of_nonneg h]
theorem Hw {b:dY} {k:Nat} {x:Int×Int} {cm tv:Int} (h:p9 b k=⟨x.1,x.2,cm.toNat,tv.toNat⟩) (h1:0<=cm) (h2:0<=tv): [Value.int .i64 x.1,.int .i64 x.2,.int .i64 cm,.int .i64 tv]=kW [p9 b k]:=by
 rw [h];simp only [kW,List.flatMap_cons,List.flatMap_nil,List.append_nil];rw [Hu h1,Hu h2]
def E5 (K:Act->World->Prop):Exit->Act->World->Prop
 | .normal,a,w=>K a w
 |_,_,_=>False
theorem E5.imp {Q:Exit->Act->World->Prop}:∀(e:Exit) (a:Act) (w:World),E5 (λa w=>Q .normal a w) e a w->Q e a w:= λe a w h=>by
 cases e<;>first |exact h|exact (h:False).elim
theorem M6 {P:Program} {c:Code} {Q:Exit->Act->World->Prop} {a:Act} {w:World} {A:Act} (R:World->Prop) (h1:∀K:Act->World->Prop,(∀w1,R w1->K A w1)->Code.wp P c (E5 K) a w) (h2:∀w1,R w1->Q .normal A w1):Code.wp P c Q a w:=Code.wp_mono E5.imp (h1 _ h2)
theorem E8 {P:Program} {c:Code} {Q:Exit->Act->World->Prop} {a:Act} {w:World} {A:Nat->Nat->Act} (R:Nat->Nat->World->Prop) (h1:∀K:Act->World->Prop,(∀g cap w1,R g cap w1->K (A g cap) w1)->Code.wp P c (E5 K) a w) (h2:∀g cap w1,R g cap w1->Q .normal (A g cap) w1):Code.wp P c Q a w:=Code.wp_mono E5.imp (h1 _ h2)
theorem E9 {P:Program} {c:Code} {Q:Exit->Act->World->Prop} {a:Act} {w:World} {A:Nat->Nat->Nat->Act} (R:Nat->Nat->Nat->World->Prop) (h1:∀K:Act->World->Prop,(∀g cap q w1,R g cap q w1->K (A g cap q) w1)->Code.wp P c (E5 K) a w) (h2:∀g cap q w1,R g cap q w1->Q .normal (A g cap q) w1):Code.wp P c Q a w:=Code.wp_mono E5.imp (h1 _ h2)
theorem ax8 (sc:List lW) (p:Int) (k:Nat) (h:k<sc.length):lG (sc.take (k+1)) p=TP p (lG (sc.take k) p) sc[k]:=by
 unfold lG;rw [bB h,List.foldl_append];rfl
end
end Go.Proofs
