/- Part 6. -/
import Derived.Maps.OwnSet
import Derived.Maps.OwnOps
import Derived.Deep.RegionLaw
import Derived.Deep.AppendLies
import Derived.Test.YtnemnkmojiljmaaGreatB05
set_option maxRecDepth 100000
set_option maxHeartbeats 0
set_option linter.all false
namespace Go.Proofs
open Go Go.RowKit Go.Maps
section
structure fG where
 hand:Int
 ins:List Int
 outs:List Int
 g0:Int
 g1:Int
 l0:Int
 l1:Int
structure tJ where
 pile:Int
 lo:Int
 hi:Int
structure fe where
 eO:List ByteArray
 dO:List ByteArray
 steps:List fG
 dR:List tJ
structure OJ where
 a1:Option Addr
 c1:Nat
 a2:Option Addr
 c2:Nat
structure jR where
 ah:Option Addr
 ch:Nat
 ap:Option Addr
 cp:Nat
 lT:Option Addr
 cs:Nat
 ac:Option Addr
 cc:Nat
 sv:Nat->OJ
def fG.cells (s:fG) (p:OJ):Nat->Value
 |0=>.int .i64 s.hand
 |1=>.slice p.a1 s.ins.length p.c1
 |2=>.slice p.a2 s.outs.length p.c2
 |3=>.int .i64 s.g0
 |4=>.int .i64 s.g1
 |5=>.int .i64 s.l0
 |_=>.int .i64 s.l1
def tJ.cells (s:tJ):Nat->Value
 |0=>.int .i64 s.pile
 |1=>.int .i64 s.lo
 |_=>.int .i64 s.hi
def M6 (ss:List fG) (sv:Nat->OJ) (i j:Nat):Value:=((ss[i]?).getD ⟨0,[],[],0,0,0,0⟩).cells (sv i) j
def BK (ss:List tJ) (i j:Nat):Value:=((ss[i]?).getD ⟨0,0,0⟩).cells j
def fJ (b:fe) (v:jR):Value:=.agg #[.slice v.ah b.eO.length v.ch,.slice v.ap b.dO.length v.cp,.slice v.lT b.steps.length v.cs,.slice v.ac b.dR.length v.cc]
theorem uD {a b c:World} {row row':Option Nat} (h:a.grownBy b row) (k:b.grownBy c row') (hr:∀j,row'=some j->a.heap.size<=j∨row=some j):a.grownBy c row:=
 ⟨k.os.trans h.os,k.tape.trans h.tape,k.output.trans h.output,aT h.size k.size, λi hi hne=>(k.block i (aK hi h.size) λe=>(hr i e.symm).elim (λx=>absurd x (Nat.not_le.2 hi)) λx=>hne x.symm).trans (h.block i hi hne)⟩
theorem below_grown {w w':World} {n:Nat} (h:Below n w w') (hn:n=w.heap.size) (row:Option Nat):w.grownBy w' row:=⟨h.os,h.tape,h.output,h.size, λi hi _=>h.block i (hn ▸ hi)⟩
theorem M7 (w:World) (row:Option Nat):w.grownBy w.drew row:=⟨rfl,rfl,rfl,aJ _, λ_ _ _=>rfl⟩
theorem ou (w:World) (b o:Nat) (v:Value):w.grownBy (w.setCell ⟨b,o,none⟩ v) (some b):=⟨rfl,rfl,rfl,by simp [World.setCell], λi _ hne=>Below.heap_setCell w _ v i (λe=>hne (by rw [e]))⟩
theorem uE (w:World) (r:Option Nat):w.grownBy w r:=⟨rfl,rfl,rfl,aJ _, λ_ _ _=>rfl⟩
variable [Lo.St]
structure gH (w:World) (B:Nat) (b:fe) (v:jR):Prop where
 eO:OI w B v.ah b.eO
 dO:OI w B v.ap b.dO
 steps:Rd w B 7 v.lT b.steps.length (M6 b.steps v.sv)
 ins:∀i s,b.steps[i]?=some s->BJ w B (v.sv i).a1 s.ins
 outs:∀i s,b.steps[i]?=some s->BJ w B (v.sv i).a2 s.outs
 dR:Rd w B 3 v.ac b.dR.length (BK b.dR)
 lh:b.eO.length<=v.ch
 lp:b.dO.length<=v.cp
 ls:b.steps.length<=v.cs
 lc:b.dR.length<=v.cc
theorem gH.keep {w w':World} {B:Nat} {b:fe} {v:jR} (h:gH w B b v) (hk:∀b o,b<B->w'.cell? ⟨b,o,none⟩=w.cell? ⟨b,o,none⟩):gH w' B b v:=
 ⟨h.eO.keep hk,h.dO.keep hk,h.steps.keep hk, λi s e=>(h.ins i s e).keep hk, λi s e=>(h.outs i s e).keep hk,h.dR.keep hk,h.lh,h.lp,h.ls,h.lc⟩
structure fe.small (b:fe):Prop where
 eO:b.eO.length<=64
 dO:b.dO.length<=64
 steps:b.steps.length<=64
 dR:b.dR.length<=64
 ins:∀s∈b.steps,s.ins.length<=64
 outs:∀s∈b.steps,s.outs.length<=64
theorem JG {w:World} {bb off k:Nat} {ss:List fG} {sv:Nat->OJ} (hc:∀i j,i<ss.length->j<7->w.cell? ⟨bb,off+(i*7+j),none⟩=some (M6 ss sv i j)) (hlt:k<ss.length):
 w.cell? ⟨bb,off+k*7,none⟩=some (.int .i64 ss[k].hand)∧w.cell? ⟨bb,off+k*7+1,none⟩=some (.slice (sv k).a1 ss[k].ins.length (sv k).c1)∧w.cell? ⟨bb,off+k*7+2,none⟩=some (.slice (sv k).a2 ss[k].outs.length (sv k).c2)∧
 w.cell? ⟨bb,off+k*7+3,none⟩=some (.int .i64 ss[k].g0)∧w.cell? ⟨bb,off+k*7+4,none⟩=some (.int .i64 ss[k].g1)∧w.cell? ⟨bb,off+k*7+5,none⟩=some (.int .i64 ss[k].l0)∧w.cell? ⟨bb,off+k*7+6,none⟩=some (.int .i64 ss[k].l1):=by
 have e:∀j,j<7->w.cell? ⟨bb,off+(k*7+j),none⟩=some (ss[k].cells (sv k) j):= λj hj=>by
  rw [hc k j hlt hj];unfold M6;rw [aO hlt];rfl
 exact ⟨e 0 (by omega),e 1 (by omega),e 2 (by omega),e 3 (by omega),e 4 (by omega),e 5 (by omega),e 6 (by omega)⟩
theorem KR {w:World} {bb off k:Nat} {ss:List tJ} (hc:∀i j,i<ss.length->j<3->w.cell? ⟨bb,off+(i*3+j),none⟩=some (BK ss i j)) (hlt:k<ss.length):
 w.cell? ⟨bb,off+k*3,none⟩=some (.int .i64 ss[k].pile)∧w.cell? ⟨bb,off+k*3+1,none⟩=some (.int .i64 ss[k].lo)∧w.cell? ⟨bb,off+k*3+2,none⟩=some (.int .i64 ss[k].hi):=by
 have e:∀j,j<3->w.cell? ⟨bb,off+(k*3+j),none⟩=some (ss[k].cells j):= λj hj=>by
  rw [hc k j hlt hj];unfold BK;rw [aO hlt];rfl
 exact ⟨e 0 (by omega),e 1 (by omega),e 2 (by omega)⟩
theorem Fb {w:World} {bb off k:Nat} {l:List Int} (hc:∀i j,i<l.length->j<1->w.cell? ⟨bb,off+(i*1+j),none⟩=some (.int .i64 ((l[i]?).getD 0))) (hlt:k<l.length):w.cell? ⟨bb,off+k,none⟩=some (.int .i64 l[k]):=by
 have :=hc k 0 hlt (by omega);rw [Nat.mul_one,aH] at this;rw [this,aO hlt];rfl
abbrev kI (p:Int):Lit:=.int .i64 p
abbrev vI (p:Int):DataW Unit:=.lit (.int .i64 p)
def BL (l:List (Int×Int)):DataW Unit:=l.foldl (λm x=>m.put (kI x.1) (vI x.2)) (.map [])
def ve (l:List (Int×Int)) (p:Int):Option Int:=l.foldl (λm x=>if x.1=p then some x.2 else m) none
theorem CW (l:List (Int×Int)) (p i:Int):BL (l++ [(p,i)])=(BL l).put (kI p) (vI i):=by simp [BL,List.foldl_append]
theorem yR (l:List (Int×Int)) (p i q:Int):ve (l++ [(p,i)]) q=if p=q then some i else ve l q:=by simp [ve,List.foldl_append]
theorem JH (p:Int):WideAt.IsKeyLit (kI p):=by
 first |exact .inr ⟨_,_,rfl⟩|exact ⟨_,_,rfl⟩|trivial|(unfold WideAt.IsKeyLit;simp [kI])
theorem JI {p q:Int} (h:p≠q):kI p≠kI q:= λe=>h (by cases e;rfl)
theorem KS (l:List (Int×Int)):IsMap (BL l):=by
 unfold BL
 have :∀(l:List (Int×Int)) (D:DataW Unit),IsMap D->IsMap (l.foldl (λm x=>m.put (kI x.1) (vI x.2)) D):=by
  intro l
  induction l with
  |nil=>intro D h;exact h
  |cons x l ih=>intro D h;exact ih _ (h.put _ _)
 exact this l _ isMap_empty
theorem yS {α:Type} {P:List α->Prop} (h0:P []) (h1:∀l x,P l->P (l++ [x])) (l:List α):P l:=by
 have :∀n (l:List α),l.length=n->P l:=by
  intro n
  induction n with
  |zero=>intro l hl;rw [List.length_eq_zero_iff.1 hl];exact h0
  |succ n ih=>
   intro l hl;have hne:l≠ []:=by intro e;rw [e] at hl;cases hl
   rw [<-List.dropLast_concat_getLast hne];exact h1 _ _ (ih _ (by rw [List.length_dropLast,hl];rfl))
 exact this _ l rfl
theorem OL (l:List (Int×Int)) (q:Int) (z:Int):(BL l).atKey (kI q) (vI z)=vI ((ve l q).getD z):=by
 induction l using yS with
 |h0=>rfl
 |h1 l x ih=>
  obtain ⟨p,i⟩:=x;rw [CW,yR]
  by_cases h:p=q
  ·subst h;rw [aj rfl,atKey_put_same (KS l) (JH p)];rfl
  ·rw [aa h,atKey_put_other (JI (Ne.symm h)),ih]
theorem Sw (l:List (Int×Int)) (q:Int):Maps.has (BL l) (kI q)=(ve l q).isSome:=by
 induction l using yS with
 |h0=>rfl
 |h1 l x ih=>
  obtain ⟨p,i⟩:=x;rw [CW,yR]
  by_cases h:p=q
  ·subst h;rw [aj rfl,has_put_same (KS l) (JH p)];rfl
  ·rw [aa h,has_put_other (JI (Ne.symm h)),ih]
theorem Sy {a b:Int} (h:vI a=vI b):a=b:=by cases h;rfl
theorem wfI {p:Int} (h1: -9223372036854775808<=p) (h2:p<=9223372036854775807):(Lit.int .i64 p).wf=true:=WalkArith.wf_i64 ⟨h1,h2⟩
def gu (f:fG->List Int) (ss:List fG):Nat->List (Int×Int)
 |0=>[]
 |k+1=>gu f ss k++(match ss[k]? with |some s=>(f s).map λp=>(p,(k:Int))|none=>[])
def vR (ss:List fG) (p:Int):Option Int:=ve (gu fG.ins ss ss.length) p
def xD (ss:List fG) (p:Int):Int:=(ve (gu fG.outs ss ss.length) p).getD 0
theorem AB (f:fG->List Int) (ss:List fG):∀k,∀x∈gu f ss k,0<=x.2∧x.2<k
 |0=> λx h=>by simp [gu] at h
 |k+1=> λx h=>by
  unfold gu at h;rcases List.mem_append.1 h with h|h
  ·have :=AB f ss k x h;omega
  ·cases e:ss[k]? with
   |none=>rw [e] at h;simp at h
   |some s=>rw [e] at h;simp at h;obtain ⟨p,_,rfl⟩:=h;dsimp only;omega
theorem Fe (l:List (Int×Int)) (p:Int) {i:Int} (h:ve l p=some i):(p,i)∈l:=by
 induction l using yS with
 |h0=>cases h
 |h1 l x ih=>
  obtain ⟨q,j⟩:=x;rw [yR] at h;split at h
  ·rename_i e;cases h;subst e;simp
  ·exact List.mem_append_left _ (ih h)
def bd1 (p:Int) (x:Int×Int) (s:tJ):Int×Int:=if s.pile=p then (max x.1 s.lo,min x.2 s.hi) else x
def lZ (sc:List tJ) (p:Int):Int×Int:=sc.foldl (bd1 p) (0,1000000)
def sN (b:fe) (p:Nat):fI:=⟨(lZ b.dR p).1,(lZ b.dR p).2,(xD b.steps p).toNat,((vR b.steps p).getD b.steps.length).toNat⟩
def sO (n:Nat) (hand:Int) (i:Nat) (s:fG):List fI:=[⟨s.g0,s.g1,n,i⟩,⟨s.l0,s.l1,i,if s.hand=hand then n+1 else n⟩]
def fo (b:fe) (k:Nat):List fI:=(List.range k).map (sN b)
def fP (b:fe) (hand:Int):Nat->List fI
 |0=>[]
 |k+1=>fP b hand k++(match b.steps[k]? with |some s=>sO b.steps.length hand k s|none=>[])
def fM (b:fe) (hand:Int):List fI:=
 fo b b.dO.length++fP b hand b.steps.length++(if 0<=hand then [⟨0,8000000,b.steps.length+1,b.steps.length⟩] else [])
def eY (b:fe) (hand:Int):Nat:=if 0<=hand then b.steps.length+2 else b.steps.length+1
structure fe.good (b:fe):Prop extends b.small where
 n8:b.steps.length<=8
 p12:b.dO.length<=12
 sc:∀s∈b.dR,0<=s.lo∧s.lo<=1000000∧0<=s.hi∧s.hi<=1000000
 st:∀s∈b.steps,0<=s.g0∧s.g0<=1000000∧0<=s.g1∧s.g1<=1000000∧0<=s.l0∧s.l0<=1000000∧0<=s.l1∧s.l1<=1000000
 ki:∀s∈b.steps,∀p∈s.ins, -9223372036854775808<=p∧p<=9223372036854775807
 ko:∀s∈b.steps,∀p∈s.outs, -9223372036854775808<=p∧p<=9223372036854775807
theorem aj3 (sc:List tJ) (p:Int) (h:∀s∈sc,0<=s.lo∧s.lo<=1000000∧0<=s.hi∧s.hi<=1000000):0<=(lZ sc p).1∧(lZ sc p).1<=1000000∧0<=(lZ sc p).2∧(lZ sc p).2<=1000000:=by
 induction sc using yS with
 |h0=>simp [lZ]
 |h1 l s ih=>
  have ih:=ih λs hs=>h s (List.mem_append_left _ hs)
  obtain ⟨a1,a2,a3,a4⟩:=h s (by simp);unfold lZ at ih ⊢;rw [List.foldl_append];simp only [List.foldl_cons,List.foldl_nil];generalize l.foldl (bd1 p) (0,1000000)=x at ih;unfold bd1;split
  ·refine ⟨?_,?_,?_,?_⟩<;>dsimp only <;>omega
  ·exact ih
theorem OM (ss:List fG) (p:Int):0<=xD ss p∧xD ss p<=ss.length:=by
 unfold xD;cases h:ve (gu fG.outs ss ss.length) p with
 |none=>simp
 |some i=>
  have :=AB _ _ _ _ (Fe _ _ h);dsimp only at this;simp only [ak];omega
theorem Sz (ss:List fG) (p:Int):0<=(vR ss p).getD ss.length∧(vR ss p).getD ss.length<=ss.length:=by
 unfold vR;cases h:ve (gu fG.ins ss ss.length) p with
 |none=>simp
 |some i=>
  have :=AB _ _ _ _ (Fe _ _ h);dsimp only at this;simp only [ak];omega
theorem D5 (b:fe) (hand:Int) (hg:b.good):∀k,∀x∈fP b hand k,x.ok
 |0=> λx h=>by simp [fP] at h
 |k+1=> λx h=>by
  unfold fP at h;rcases List.mem_append.1 h with h|h
  ·exact D5 b hand hg k x h
  ·cases e:b.steps[k]? with
   |none=>rw [e] at h;simp at h
   |some s=>
    rw [e] at h;have hk:=(aZ.1 e).1;obtain ⟨a1,a2,a3,a4,a5,a6,a7,a8⟩:=hg.st s (List.mem_of_getElem? e);have :=hg.n8;simp only [sO,bE,ax,or_false] at h;rcases h with rfl|rfl
    ·refine ⟨?_,?_,?_,?_,?_,?_⟩<;>dsimp only <;>omega
    ·refine ⟨?_,?_,?_,?_,?_,?_⟩<;>dsimp only <;>(try split)<;>omega
theorem vo (b:fe) (hand:Int):∀k,k<=b.steps.length->(fP b hand k).length=2*k
 |0,_=>rfl
 |k+1,h=>by
  unfold fP;rw [aO h,List.length_append,vo b hand k (by omega)];simp [sO];omega
theorem KT (b:fe) (hg:b.good) (p:Nat):(sN b p).ok:=by
 obtain ⟨a1,a2,a3,a4⟩:=aj3 b.dR p hg.sc;have h1:=OM b.steps p;have h2:=Sz b.steps p;have :=hg.n8;exact ⟨a1,by show (lZ b.dR p).1<=8000000;omega,a3,by show (lZ b.dR p).2<=8000000;omega,by show (xD b.steps p).toNat<64;omega,by show ((vR b.steps p).getD b.steps.length).toNat<64;omega⟩
theorem OO (b:fe) (hand:Int) (hg:b.good):∀x∈fM b hand,x.ok:=by
 intro x hx;unfold fM at hx;rcases List.mem_append.1 hx with hx|hx
 ·rcases List.mem_append.1 hx with hx|hx
  ·obtain ⟨p,_,rfl⟩:=List.mem_map.1 hx;exact KT b hg p
  ·exact D5 b hand hg _ x hx
 ·split at hx
  ·have :=hg.n8;simp at hx;subst hx
   exact ⟨by simp,by simp,by simp,by simp,by dsimp only;omega,by dsimp only;omega⟩
  ·simp at hx
theorem BM (b:fe) (hand:Int):(fM b hand).length=b.dO.length+2*b.steps.length+(if 0<=hand then 1 else 0):=by
 unfold fM fo;rw [List.length_append,List.length_append,vo b hand _ (aJ _)];simp only [List.length_map,List.length_range];congr 1;split<;>rfl
end
section
variable [Lo.St]
theorem Lo.KU:Lo.prog.underlying 112=some (.slice 142):=(Lo.underlying 112).trans (by kernel_rfl)
theorem Lo.Wx:(Lo.prog.info? 142).map (λi=>(i.zero,i.size,i.bytes))=some (some (.agg #[.int .i64 0,.int .i64 0,.int .i64 0,.int .i64 0]),4,32):=by
 rw [Lo.info];kernel_rfl
theorem Lo.Ff:Lo.prog.underlying 135=some (.map 3 3):=(Lo.underlying 135).trans (by kernel_rfl)
theorem Lo.JJ:Lo.prog.underlying 3=some (.int .i64):=(Lo.underlying 3).trans (by kernel_rfl)
theorem Lo.SC:Keyed Lo.prog 3:=int_keyed Lo.JJ
theorem Lo.SE (w:World):(Go.zeroValue 3).run Lo.prog w= .ok (.int .i64 0) w:=(Lo.zeroValue 3 w).trans (by kernel_rfl)
abbrev mI (w:World) (b n:Nat) (l:List (Int×Int)):Prop:=w.ownsMap Lo.prog 3 (plainElem Lo.prog 3) b n (BL l)
theorem mI.up {w:World} {b n n':Nat} {l:List (Int×Int)} (h:mI w b n l) (hn:n<=n'):mI w b n' l:=World.ownsMap.mono h hn
theorem D6 (f:fG->List Int) (ss:List fG) (k:Nat) (h:k<ss.length):gu f ss (k+1)=gu f ss k++(f ss[k]).map λp=>(p,(k:Int)):=by
 show gu f ss k++_=_;rw [aO h]
def tO (f:fG->List Int) (ss:List fG) (k:Nat) (l:List Int) (j:Nat):List (Int×Int):=gu f ss k++(l.take j).map λp=>(p,(k:Int))
theorem BN (f:fG->List Int) (ss:List fG) (k:Nat) (l:List Int):tO f ss k l 0=gu f ss k:=by simp [tO]
theorem BO (f:fG->List Int) (ss:List fG) (k:Nat) (l:List Int) (j:Nat) (h:j<l.length):tO f ss k l (j+1)=tO f ss k l j++ [(l[j],(k:Int))]:=by
 unfold tO;rw [bz h,List.map_append,List.append_assoc];rfl
theorem D7 (f:fG->List Int) (ss:List fG) (k:Nat) (l:List Int):tO f ss k l l.length=gu f ss k++l.map λp=>(p,(k:Int)):=by simp [tO]
theorem YD {w1:World} {b n:Nat} {l:List (Int×Int)} {p i:Int} (h:w1.ownsMap Lo.prog 3 (plainElem Lo.prog 3) b (n+1) ((BL l).put (kI p) (vI i))):mI w1 b (n+1) (l++ [(p,i)]):=by
 show w1.ownsMap _ _ _ _ _ (BL _);rw [CW];exact h
theorem Fg {w:World} {b:Nat} {x y:Value} {t:TypeId} (h:w.heap[b]?=some (.cells #[x,y] t)):w.cell? ⟨b,0,none⟩=some x∧w.cell? ⟨b,1,none⟩=some y∧w.frozen? ⟨b,0,none⟩=false∧w.frozen? ⟨b,1,none⟩=false:=by
 unfold World.cell? World.frozen?;simp only [h];exact ⟨rfl,rfl,rfl,rfl⟩
theorem Wy {w:World} {b:Nat} {x y x' y':Value} {t:TypeId} (h:w.heap[b]?=some (.cells #[x,y] t)):((w.setCell ⟨b,0,none⟩ x').setCell ⟨b,1,none⟩ y').heap[b]?=some (.cells #[x',y'] t):=
 heap_setCell_same _ b 1 _ _ y' (heap_setCell_same w b 0 _ _ x' h)
theorem jJ {w:World} {b:Nat} {x y z:Value} {t:TypeId} (h:w.heap[b]?=some (.cells #[x,y,z] t)):w.cell? ⟨b,0,none⟩=some x∧w.cell? ⟨b,1,none⟩=some y∧w.cell? ⟨b,2,none⟩=some z∧w.frozen? ⟨b,0,none⟩=false∧w.frozen? ⟨b,1,none⟩=false∧w.frozen? ⟨b,2,none⟩=false:=by
 unfold World.cell? World.frozen?;simp only [h];exact ⟨rfl,rfl,rfl,rfl,rfl,rfl⟩
theorem M8 {w:World} {b:Nat} {x y z x':Value} {t:TypeId} (h:w.heap[b]?=some (.cells #[x,y,z] t)):(w.setCell ⟨b,0,none⟩ x').heap[b]?=some (.cells #[x',y,z] t):=heap_setCell_same w b 0 _ _ x' h
theorem M9 {w:World} {b:Nat} {x y z z':Value} {t:TypeId} (h:w.heap[b]?=some (.cells #[x,y,z] t)):(w.setCell ⟨b,2,none⟩ z').heap[b]?=some (.cells #[x,y,z'] t):=heap_setCell_same w b 2 _ _ z' h
def kQ (ss:List fI):List Value:=ss.flatMap λx=>[.int .i64 x.lo,.int .i64 x.hi,.int .i64 (x.fr:Int),.int .i64 (x.to:Int)]
structure gy (w:World) (b base:Nat) (n nd:Int) (ss:List fI) (v:Value):Prop where
 blk:w.heap[b]?=some (.cells #[v,.int .i64 n,.int .i64 nd] 114)
 row:w.ownsRow base 142 4 v ss.length (kQ ss)
 pl:Par.eP w v
theorem BP (b:fe) (k:Nat):fo b (k+1)=fo b k++ [sN b k]:=by unfold fo;rw [List.range_succ,List.map_append];rfl
theorem jg (b:fe) (k:Nat):(fo b k).length=k:=by simp [fo]
theorem gy.step {w1:World} {b base g cap m:Nat} {n nd:Int} {ss news:List fI} {v:Value} (hw:w1.heap[b]?=some (.cells #[v,.int .i64 n,.int .i64 nd] 114)) (hrow:w1.ownsRow base 142 4 (.slice (some ⟨g,0,none⟩) m cap) m (kQ ss++kQ news)) (hm:m=ss.length+news.length)
 (hp:Par.eP w1 (.slice (some ⟨g,0,none⟩) m cap)) (hbg:b<base):gy (w1.setCell ⟨b,0,none⟩ (.slice (some ⟨g,0,none⟩) m cap)) b base n nd (ss++news) (.slice (some ⟨g,0,none⟩) m cap):=by
 have hg:=hrow.lt g rfl;have hne:g≠b:=by omega
 refine ⟨M8 hw,?_,hp.keep λg' hg'=>Below.heap_setCell _ _ _ _ ?_⟩
 ·have e:kQ (ss++news)=kQ ss++kQ news:=by simp [kQ]
  rw [e,List.length_append, <-hm];exact hrow.kept (ou _ _ _ _) (.inr (by simp [Value.ownBlock];exact hne))
 ·have :g=g':=by simpa [Value.ownBlock] using hg'
  subst this;exact hne
theorem OP {wr w1:World} {o:Obj} {b base:Nat} {n nd:Int} {ss:List fI} {v1:Value} (h:gy wr b base n nd ss v1) (hg:(wr.drew.alloc o).grownBy w1 v1.ownBlock) (hb:b<wr.heap.size) (hbb:b<base):w1.heap[b]?=some (.cells #[v1,.int .i64 n,.int .i64 nd] 114):=by
 refine (hg.block b (by simp;omega) λe=>?_).trans ((cZ wr.drew o b hb).trans h.blk);have :=(h.row.lt b e.symm).1;omega
theorem KV {wr w1:World} {o:Obj} {b base:Nat} {n nd:Int} {ss:List fI} {v1:Value} (h:gy wr b base n nd ss v1) (hg:(wr.alloc o).grownBy w1 v1.ownBlock) (hb:b<wr.heap.size) (hbb:b<base):w1.heap[b]?=some (.cells #[v1,.int .i64 n,.int .i64 nd] 114):=by
 refine (hg.block b (by simp;omega) λe=>?_).trans ((cZ wr o b hb).trans h.blk);have :=(h.row.lt b e.symm).1;omega
theorem gy.below {w w':World} {b base n0:Nat} {n nd:Int} {ss:List fI} {v:Value} (h:gy w b base n nd ss v) (hb:Below n0 w w') (hn:n0=w.heap.size) (hbw:b<w.heap.size):gy w' b base n nd ss v:=by
 subst hn;exact ⟨(hb.block b hbw).trans h.blk,ownsRow.below h.row hb,h.pl.keep λg hg=>hb.block g (h.row.lt g hg).2⟩
theorem gy.alloc {w:World} {b base:Nat} {n nd:Int} {ss:List fI} {v:Value} (h:gy w b base n nd ss v) (hbw:b<w.heap.size) (o:Obj):gy (w.alloc o) b base n nd ss v:=⟨(cZ _ _ _ hbw).trans h.blk,h.row.alloc _,h.pl.alloc _⟩
theorem step_cells {n k:Nat} {hand tv:Int} {s:fG} (h:(if s.hand=hand then ((n+1:Nat):Int) else (n:Int))=tv): [Value.int .i64 s.g0,.int .i64 s.g1,.int .i64 (n:Int),.int .i64 (k:Int),.int .i64 s.l0,.int .i64 s.l1,.int .i64 (k:Int),.int .i64 tv]=kQ (sO n hand k s):=by
 subst h;simp only [kQ,sO,List.flatMap_cons,List.flatMap_nil,List.append_nil,List.cons_append,List.nil_append];split<;>rfl
def SF (nr:Nat) (s:fG) (w:World):Prop:=w.cell? ⟨nr,3,none⟩=some (.int .i64 s.g0)∧w.cell? ⟨nr,3+1,none⟩=some (.int .i64 s.g1)∧w.cell? ⟨nr,5,none⟩=some (.int .i64 s.l0)∧w.cell? ⟨nr,5+1,none⟩=some (.int .i64 s.l1)
theorem SF.keep {nr:Nat} {s:fG} {w w':World} (h:SF nr s w) (hk:w'.heap[nr]?=w.heap[nr]?):SF nr s w':=by
 obtain ⟨a,b,c,d⟩:=h;exact ⟨(dm hk).trans a,(dm hk).trans b,(dm hk).trans c,(dm hk).trans d⟩
def Wz (w:World) (b:fe) (hand:Int) (e:Ending) (w':World):Prop:=∃bw v,e= .returned (.pointer (some ⟨bw,0,none⟩))∧w.heap.size<=bw∧bw<w'.heap.size∧gy w' bw w.heap.size b.steps.length (eY b hand) (fM b hand) v∧Below w.heap.size w w'
theorem ownsRow.base {w:World} {base base' e size n:Nat} {v:Value} {xs:List Value} (h:w.ownsRow base e size v n xs) (hb:base'<=base):w.ownsRow base' e size v n xs:=by
 obtain ⟨h1,h2⟩:=h;refine ⟨h1,h2.imp id ?_⟩;rintro ⟨g,cap,cur,a,b,c⟩;exact ⟨g,cap,cur,a,aT hb b,c⟩
theorem gy.base {w:World} {b base base':Nat} {n nd:Int} {ss:List fI} {v:Value} (h:gy w b base n nd ss v) (hb:base'<=base):gy w b base' n nd ss v:=⟨h.blk,ownsRow.base h.row hb,h.pl⟩
theorem Fh {i:Int} (h:0<=i):Value.int .i64 ((i.toNat:Nat):Int)= .int .i64 i:=by rw [Int.toNat_of_nonneg h]
theorem Fj {b:fe} {k:Nat} {x:Int×Int} {cm tv:Int} (h:sN b k=⟨x.1,x.2,cm.toNat,tv.toNat⟩) (h1:0<=cm) (h2:0<=tv): [Value.int .i64 x.1,.int .i64 x.2,.int .i64 cm,.int .i64 tv]=kQ [sN b k]:=by
 rw [h];simp only [kQ,List.flatMap_cons,List.flatMap_nil,List.append_nil];rw [Fh h1,Fh h2]
def D8 (K:Act->World->Prop):Exit->Act->World->Prop
 | .normal,a,w=>K a w
 |_,_,_=>False
theorem D8.imp {Q:Exit->Act->World->Prop}:∀(e:Exit) (a:Act) (w:World),D8 (λa w=>Q .normal a w) e a w->Q e a w:= λe a w h=>by
 cases e<;>first |exact h|exact (h:False).elim
theorem KX {P:Program} {c:Code} {Q:Exit->Act->World->Prop} {a:Act} {w:World} {A:Act} (R:World->Prop) (h1:∀K:Act->World->Prop,(∀w1,R w1->K A w1)->Code.wp P c (D8 K) a w) (h2:∀w1,R w1->Q .normal A w1):Code.wp P c Q a w:=Code.wp_mono D8.imp (h1 _ h2)
theorem D9 {P:Program} {c:Code} {Q:Exit->Act->World->Prop} {a:Act} {w:World} {A:Nat->Nat->Act} (R:Nat->Nat->World->Prop) (h1:∀K:Act->World->Prop,(∀g cap w1,R g cap w1->K (A g cap) w1)->Code.wp P c (D8 K) a w) (h2:∀g cap w1,R g cap w1->Q .normal (A g cap) w1):Code.wp P c Q a w:=Code.wp_mono D8.imp (h1 _ h2)
theorem Ea {P:Program} {c:Code} {Q:Exit->Act->World->Prop} {a:Act} {w:World} {A:Nat->Nat->Nat->Act} (R:Nat->Nat->Nat->World->Prop) (h1:∀K:Act->World->Prop,(∀g cap q w1,R g cap q w1->K (A g cap q) w1)->Code.wp P c (D8 K) a w) (h2:∀g cap q w1,R g cap q w1->Q .normal (A g cap q) w1):Code.wp P c Q a w:=Code.wp_mono D8.imp (h1 _ h2)
theorem as4 (sc:List tJ) (p:Int) (k:Nat) (h:k<sc.length):lZ (sc.take (k+1)) p=bd1 p (lZ (sc.take k) p) sc[k]:=by
 unfold lZ;rw [bz h,List.foldl_append];rfl
end
end Go.Proofs
