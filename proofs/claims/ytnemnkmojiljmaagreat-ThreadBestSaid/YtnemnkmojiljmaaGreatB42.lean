/- Part 42. -/
import Derived.Test.YtnemnkmojiljmaaGreatB22
import Derived.Test.YtnemnkmojiljmaaGreatB40
import Derived.Test.YtnemnkmojiljmaaGreatB41
set_option maxRecDepth 100000
set_option maxHeartbeats 0
set_option linter.all false
namespace Go.Proofs.Tryz
open Go Go.Conc Go.ConcN Go.ConcM Go.RowKit Go.Conc.Lib Go.ConcR.Gen Par
section
attribute [local instance] noSh jm
def l5:List FuncId:=[14,35,39,30,42,15,20,22,24,28,19,71,72,73,74,75,17,43,49,56,57,112,113,50,114,115,116,47,48,79,87,88,89,90,132,133,83,84,117,121,122,118,119,120,135,134]
def S5 (g:FuncId):Bool:=l5.contains g
theorem aq3:l5.all (Jf lC S5 S5)=true:=by kernel_rfl
theorem Vz (A:Nat->Bool):nM lC (FA S5 S5 (fH lC S5 S5) A):=
 Pq (λg hg=>bG.1 aq3 g (by simpa [S5] using hg)) (λ_ h=>h) A
theorem aq4:fH lC S5 S5 yF=true:=by kernel_rfl
theorem aq5:fH lC S5 S5 W9=true:=by kernel_rfl
theorem aq6:S5 14=true:=by kernel_rfl
theorem Yi:lC.funcs[14]?=some Tryz.f14:=by
 unfold lC;rw [zo Tryz.prog _ (by decide)];exact Tryz.func14
def ltB (x y:List Int×Bool):Bool:=decide (x.1.length<y.1.length)||(decide (x.1.length=y.1.length)&&(decide (lF x.1 y.1<0)||(decide (x.1=y.1)&&!x.2&&y.2)))
theorem ag9 {x y:List Int×Bool} (h:ltB x y=true):Lt x y:=by
 unfold ltB at h;unfold Lt;simp only [Bool.or_eq_true,bC,decide_eq_true_eq,Bool.not_eq_true'] at h;rcases h with h|⟨h1,h2|⟨⟨h2,h3⟩,h4⟩⟩
 ·exact .inl h
 ·exact .inr ⟨h1,.inl ((DJ _ _).1.1 h2)⟩
 ·exact .inr ⟨h1,.inr ⟨h2,h3,h4⟩⟩
theorem RH:(gD (fM oJ (-1)) 4 (jP (fM oJ (-1)) 4 false).length (jP (fM oJ (-1)) 4 true).length).all (λx=>decide (x=([2,3],true))||ltB ([2,3],true) x)=true:=by kernel_rfl
theorem Yj:(gD (fM oJ (-1)) 4 (jP (fM oJ (-1)) 4 false).length (jP (fM oJ (-1)) 4 true).length).contains ([2,3],true)=true:=by kernel_rfl
theorem VA {st:List Int} {fu found:Bool} (h:nZ (gD (fM oJ (-1)) oJ.steps.length (jP (fM oJ (-1)) oJ.steps.length false).length (jP (fM oJ (-1)) oJ.steps.length true).length) st fu found):st= [2,3]∧fu=true∧found=true:=by
 have h2:nZ (gD (fM oJ (-1)) 4 (jP (fM oJ (-1)) 4 false).length (jP (fM oJ (-1)) 4 true).length) st fu found:=h;have hm:([2,3],true)∈gD (fM oJ (-1)) 4 (jP (fM oJ (-1)) 4 false).length (jP (fM oJ (-1)) 4 true).length:=by simpa using Yj
 have ha:=bG.1 RH;rcases h2 with ⟨_,h3,_⟩|⟨hf,h3,h4⟩
 ·rw [h3] at hm;cases hm
 ·have h5:=ha _ h3;simp only [Bool.or_eq_true,decide_eq_true_eq] at h5;rcases h5 with h5|h5
  ·cases h5;exact ⟨rfl,rfl,hf⟩
  ·exact absurd (ag9 h5) (h4 _ hm)
theorem Yk {F F':Fit} {f:Nat->Nat} (hV:F'.V=F.V) (hA:∀b,F.A b=true->F'.A (f b)=true) {fn:Fn} (h:Yy F fn=true):Yy F' (V7 f fn)=true:=by
 cases fn with
 |func g=>show F'.V g=true;rw [hV];exact h
 |yield l=>exact hA l h
 |_=>exact h
mutual
theorem Oo {F F':Fit} {f:Nat->Nat} (hV:F'.V=F.V) (hA:∀b,F.A b=true->F'.A (f b)=true):∀v:Value,vs F v=true->vs F' (rv f v)=true
 | .bool _,_=>by simp
 | .int _ _,_=>by simp
 | .float _ _,h=>by simp at h
 | .complex _ _ _,h=>by simp at h
 | .string _,_=>by simp
 | .pointer none,_=>by simp
 | .pointer (some a),h=>by simp at h ⊢;exact hA _ h
 | .slice none _ _,_=>by simp
 | .slice (some a) l c,h=>by rw [fT,ay,jo,yK];rw [jo,yK] at h;exact hA _ h
 | .map none,_=>by rw [rv,vs];rfl
 | .map (some r),h=>by rw [rv,vs];rw [vs] at h;exact hA _ h
 | .chan r,h=>by rw [rv,vs];rw [vs] at h;cases r with |none=>rfl|some r=>cases h
 | .func fn a b,h=>by
   rw [vs,bC,bC] at h;rw [rv,vs,bC,bC];exact ⟨⟨Yk hV hA h.1.1,EK hV hA a h.1.2⟩,EK hV hA b h.2⟩
 | .nilFunc,_=>by simp
 | .iface t v,h=>by rw [vs] at h;rw [rv,vs];exact Oo hV hA v h
 | .nilIface,_=>by simp
 | .agg a,h=>by rw [vs] at h;rw [rv,vs];exact EK hV hA a h
 | .tuple a,h=>by rw [vs] at h;rw [rv,vs];exact EK hV hA a h
theorem EK {F F':Fit} {f:Nat->Nat} (hV:F'.V=F.V) (hA:∀b,F.A b=true->F'.A (f b)=true):∀a:Array Value,MN F a=true->MN F' (OC f a)=true
 |⟨l⟩,h=>by rw [MN] at h;rw [OC,MN];exact PN hV hA l h
theorem PN {F F':Fit} {f:Nat->Nat} (hV:F'.V=F.V) (hA:∀b,F.A b=true->F'.A (f b)=true):∀l:List Value,MK F l=true->MK F' (Ku f l)=true
 | [],_=>by rw [Ku,MK]
 |v::l,h=>by
  rw [MK,bC] at h;rw [Ku,MK,bC];exact ⟨Oo hV hA v h.1,PN hV hA l h.2⟩
end
theorem dI {F:Fit} {v:Value} {l:List Value} (h:vs F v=true) (k:VS F l.toArray):VS F (v::l).toArray:= λx hx=>by
 rcases bE.1 (by simpa using hx) with rfl|hx
 ·exact h
 ·exact k x (by simpa using hx)
theorem Oq {F:Fit}:VS F (List.toArray []):= λx hx=>by simp at hx
section
variable {n:Nat} {w' W':World} {f:Nat->Nat} {dL:Nat->Prop}
theorem Ot {k m b off:Nat} {F:Nat->Nat->Value} (hm:Made n w' f dL W') (hb:n<=b) (hlt:∀b,dL b->b<W'.heap.size) (h:Rd w' w'.heap.size k (some ⟨b,off,none⟩) m F) (hF:∀i j,rv f (F i j)=F i j):Rd W' W'.heap.size k (some ⟨f b,off,none⟩) m F:= λhn=>by
 obtain ⟨b',off',e,h1,h2⟩:=h hn;cases e
 exact ⟨f b,off,rfl,hlt _ (hm.ge b hb h1).2.2, λi j hi hj=>by
  have :=hm.cell b _ _ hb (h2 i j hi hj);rw [hF] at this;exact this⟩
def As5 (L:List Nat) (f:Nat->Nat) (x:Nat):Prop:=∃b∈L,x=f b
def Cl5 (L:List Nat) (w:World):Prop:=∀b∈L,∃c e fr,w.heap[b]?=some (.cells c e fr)∧∀x∈c,fA x=true∨∃p l cp,x= .slice p l cp∧∀q,p=some q->q.block∈L
theorem PO {L:List Nat} (hm:Made n w' f dL W') (hc:Cl5 L w') (hn:∀b∈L,n<=b) (a:Nat) (h:As5 L f a):∃c e fr,W'.heap[a]?=some (.cells c e fr)∧∀x∈c,fA x=true∨∃p l cp,x= .slice p l cp∧∀q,p=some q->As5 L f q.block:=by
 obtain ⟨b,hb,rfl⟩:=h;obtain ⟨c,e,fr,h1,h2⟩:=hc b hb;obtain ⟨fr',h3⟩:=hm.blk b c e fr (hn b hb) h1;refine ⟨_,_,_,h3, λx hx=>?_⟩;obtain ⟨y,hy,rfl⟩:=Array.mem_map.1 hx;rcases h2 y hy with h4|⟨p,l,cp,rfl,h4⟩
 ·rw [(kE (F:=⟨λ_=>false, λ_=>false, λ_=>false, λ_=>false⟩) (f:=f) h4).1];exact .inl h4
 ·refine .inr ⟨p.map (ra f),l,cp,by simp, λq hq=>?_⟩;cases p with
  |none=>cases hq
  |some p=>
   cases hq;exact ⟨p.block,h4 p rfl,rfl⟩
theorem PR {L:List Nat} (hm:Made n w' f dL W') (hc:Cl5 L w') (hn:∀b∈L,n<=b) (a:Nat) (h:As5 L f a):dL a:=by
 obtain ⟨b,hb,rfl⟩:=h;obtain ⟨c,e,fr,h1,h2⟩:=hc b hb;exact (hm.ge b (hn b hb) (aI.1 h1).1).2.2
def EA (f:Nat->Nat) (n g q:Nat):jR where
 ah:=some ⟨f (n+1),0,none⟩
 ch:=2
 ap:=some ⟨f (n+2),0,none⟩
 cp:=5
 lT:=some ⟨f (n+13),0,none⟩
 cs:=4
 ac:=some ⟨f g,0,none⟩
 cc:=q
 sv:= λi=>match i with
  |0=>⟨none,0,some ⟨f (n+3),0,none⟩,1⟩
  |1=>⟨some ⟨f (n+5),0,none⟩,1,some ⟨f (n+6),0,none⟩,2⟩
  |2=>⟨none,0,some ⟨f (n+8),0,none⟩,1⟩
  |_=>⟨some ⟨f (n+10),0,none⟩,2,some ⟨f (n+11),0,none⟩,1⟩
theorem VB {g q:Nat} (hm:Made n w' f dL W') (hlt:∀b,dL b->b<W'.heap.size) (Yl:∀k,k<18->w'.heap[n+k]?=(Nk n)[k]?) (hg:n<=g) (hgc:∀j,j<12->w'.cell? ⟨g,j,none⟩=some (.int .i64 (([0,105,110,2,90,90,4,14,16,1,14,20][j]?).getD 0))) (hq:4<=q):
 gH W' W'.heap.size oJ (EA f n g q):=by
 have hc:∀(k:Nat) (c:Array Value) (e:TypeId) (o:Nat) (v:Value),k<18->(Nk n)[k]?=some (.cells c e)->c[o]?=some v->W'.cell? ⟨f (n+k),o,none⟩=some (rv f v):= λk c e o v hk h1 h2=>by
  refine hm.cell (n+k) o v (by omega) ?_
  rw [Cz ((Yl k hk).trans h1),h2]
 have hl:∀k,k<18->f (n+k)<W'.heap.size:= λk hk=>by
  have :n+k<w'.heap.size:=by
   have h:=Yl k hk;have h2:k<(Nk n).length:=hk;rw [aO h2] at h;exact (aI.1 h).1
  exact (hm.ge (n+k) (by omega) this).2.1
 have hgl:f g<W'.heap.size:=by
  have h:=hgc 0 (by omega);obtain ⟨o,ho,_⟩:=cells_of_cell h;exact (hm.ge g hg (aI.1 ho).1).2.1
 refine ⟨λ_=>⟨f (n+1),0,rfl,hl 1 (by omega), λi j hi hj=>?_⟩, λ_=>⟨f (n+2),0,rfl,hl 2 (by omega), λi j hi hj=>?_⟩, λ_=>⟨f (n+13),0,rfl,hl 13 (by omega), λi j hi hj=>?_⟩, λi s hs=>?_, λi s hs=>?_, λ_=>⟨f g,0,rfl,hgl, λi j hi hj=>?_⟩,aJ _,aJ _,aJ _,hq⟩
 ·have hi:i<2:=hi;obtain rfl:j=0:=by omega
  obtain rfl|rfl:i=0∨i=1:=by omega
  all_goals exact (hc 1 _ _ _ _ (by omega) rfl rfl).trans (by simp;rfl)
 ·have hi:i<5:=hi;obtain rfl:j=0:=by omega
  obtain rfl|rfl|rfl|rfl|rfl:i=0∨i=1∨i=2∨i=3∨i=4:=by omega
  all_goals exact (hc 2 _ _ _ _ (by omega) rfl rfl).trans (by simp;rfl)
 ·have hi:i<4:=hi;obtain rfl|rfl|rfl|rfl:i=0∨i=1∨i=2∨i=3:=by omega
  all_goals obtain rfl|rfl|rfl|rfl|rfl|rfl|rfl:j=0∨j=1∨j=2∨j=3∨j=4∨j=5∨j=6:=by omega
  all_goals exact (hc 13 _ _ _ _ (by omega) rfl rfl).trans (by simp;rfl)
 ·have hi:i<4:=(aZ.1 hs).1;obtain rfl|rfl|rfl|rfl:i=0∨i=1∨i=2∨i=3:=by omega
  ·cases hs;exact λh=>absurd h (by decide)
  ·cases hs;refine λ_=>⟨f (n+5),0,rfl,hl 5 (by omega), λi j hi hj=>?_⟩
   have hi:i<1:=hi;obtain rfl:j=0:=by omega
   obtain rfl:i=0:=by omega
   exact (hc 5 _ _ _ _ (by omega) rfl rfl).trans (by simp)
  ·cases hs;exact λh=>absurd h (by decide)
  ·cases hs;refine λ_=>⟨f (n+10),0,rfl,hl 10 (by omega), λi j hi hj=>?_⟩
   have hi:i<2:=hi;obtain rfl:j=0:=by omega
   obtain rfl|rfl:i=0∨i=1:=by omega
   all_goals exact (hc 10 _ _ _ _ (by omega) rfl rfl).trans (by simp)
 ·have hi:i<4:=(aZ.1 hs).1;obtain rfl|rfl|rfl|rfl:i=0∨i=1∨i=2∨i=3:=by omega
  ·cases hs;refine λ_=>⟨f (n+3),0,rfl,hl 3 (by omega), λi j hi hj=>?_⟩
   have hi:i<1:=hi;obtain rfl:j=0:=by omega
   obtain rfl:i=0:=by omega
   exact (hc 3 _ _ _ _ (by omega) rfl rfl).trans (by simp)
  ·cases hs;refine λ_=>⟨f (n+6),0,rfl,hl 6 (by omega), λi j hi hj=>?_⟩
   have hi:i<2:=hi;obtain rfl:j=0:=by omega
   obtain rfl|rfl:i=0∨i=1:=by omega
   all_goals exact (hc 6 _ _ _ _ (by omega) rfl rfl).trans (by simp)
  ·cases hs;refine λ_=>⟨f (n+8),0,rfl,hl 8 (by omega), λi j hi hj=>?_⟩
   have hi:i<1:=hi;obtain rfl:j=0:=by omega
   obtain rfl:i=0:=by omega
   exact (hc 8 _ _ _ _ (by omega) rfl rfl).trans (by simp)
  ·cases hs;refine λ_=>⟨f (n+11),0,rfl,hl 11 (by omega), λi j hi hj=>?_⟩
   have hi:i<1:=hi;obtain rfl:j=0:=by omega
   obtain rfl:i=0:=by omega
   exact (hc 11 _ _ _ _ (by omega) rfl rfl).trans (by simp)
 ·have hi:i<4:=hi;have h:= λj hj=>hm.cell g j _ hg (hgc j hj)
  obtain rfl|rfl|rfl|rfl:i=0∨i=1∨i=2∨i=3:=by omega
  all_goals obtain rfl|rfl|rfl:j=0∨j=1∨j=2:=by omega
  all_goals exact (h _ (by omega)).trans (by simp;rfl)
theorem RI {g q:Nat} {L:List Nat} (hm:Made n w' f dL W') (hlt:∀b,dL b->b<W'.heap.size) (hcl:Cl5 L w') (VC:∀b∈L,n<=b) (hk:∀k,1<=k->k<=17->n+k∈L) (hgL:g∈L) (Yl:∀k,k<18->w'.heap[n+k]?=(Nk n)[k]?) (hgc:∀j,j<12->w'.cell? ⟨g,j,none⟩=some (.int .i64 (([0,105,110,2,90,90,4,14,16,1,14,20][j]?).getD 0))) (hq:4<=q):
 xw (As5 L f) dL W' oJ (EA f n g q):=by
 refine ⟨VB hm hlt Yl (VC g hgL) hgc hq,PR hm hcl VC,PO hm hcl VC, λp hp=>?_, λi s hs p hp=>?_⟩
 ·rcases hp with hp|hp|hp|hp
  all_goals cases hp
  ·exact ⟨_,hk 1 (by omega) (by omega),rfl⟩
  ·exact ⟨_,hk 2 (by omega) (by omega),rfl⟩
  ·exact ⟨_,hk 13 (by omega) (by omega),rfl⟩
  ·exact ⟨_,hgL,rfl⟩
 ·have hi:i<4:=(aZ.1 hs).1;obtain rfl|rfl|rfl|rfl:i=0∨i=1∨i=2∨i=3:=by omega
  all_goals rcases hp with hp|hp
  all_goals cases hp
  all_goals exact ⟨_,hk _ (by omega) (by omega),rfl⟩
end
end
section
attribute [local instance] noSh jm
theorem VD:(Tryz.f28.name== "runtime.NumGoroutine")=false:=by kernel_rfl
theorem ah0 (T:Array Value) (h:T.size=160):T= #[T.getD 0 undef,T.getD 1 undef,T.getD 2 undef,T.getD 3 undef,T.getD 4 undef,T.getD 5 undef,T.getD 6 undef,T.getD 7 undef,T.getD 8 undef,T.getD 9 undef,T.getD 10 undef,T.getD 11 undef,T.getD 12 undef,T.getD 13 undef,T.getD 14 undef,T.getD 15 undef,T.getD 16 undef,T.getD 17 undef,T.getD 18 undef,T.getD 19 undef,T.getD 20 undef,T.getD 21 undef,T.getD 22 undef,T.getD 23 undef,T.getD 24 undef,T.getD 25 undef,T.getD 26 undef,T.getD 27 undef,T.getD 28 undef,T.getD 29 undef,T.getD 30 undef,T.getD 31 undef,T.getD 32 undef,T.getD 33 undef,T.getD 34 undef,T.getD 35 undef,T.getD 36 undef,T.getD 37 undef,T.getD 38 undef,T.getD 39 undef,T.getD 40 undef,T.getD 41 undef,T.getD 42 undef,T.getD 43 undef,T.getD 44 undef,T.getD 45 undef,T.getD 46 undef,T.getD 47 undef,T.getD 48 undef,T.getD 49 undef,T.getD 50 undef,T.getD 51 undef,T.getD 52 undef,T.getD 53 undef,T.getD 54 undef,T.getD 55 undef,T.getD 56 undef,T.getD 57 undef,T.getD 58 undef,T.getD 59 undef,T.getD 60 undef,T.getD 61 undef,T.getD 62 undef,T.getD 63 undef,T.getD 64 undef,T.getD 65 undef,T.getD 66 undef,T.getD 67 undef,T.getD 68 undef,T.getD 69 undef,T.getD 70 undef,T.getD 71 undef,T.getD 72 undef,T.getD 73 undef,T.getD 74 undef,T.getD 75 undef,T.getD 76 undef,T.getD 77 undef,T.getD 78 undef,T.getD 79 undef,T.getD 80 undef,T.getD 81 undef,T.getD 82 undef,T.getD 83 undef,T.getD 84 undef,T.getD 85 undef,T.getD 86 undef,T.getD 87 undef,T.getD 88 undef,T.getD 89 undef,T.getD 90 undef,T.getD 91 undef,T.getD 92 undef,T.getD 93 undef,T.getD 94 undef,T.getD 95 undef,T.getD 96 undef,T.getD 97 undef,T.getD 98 undef,T.getD 99 undef,T.getD 100 undef,T.getD 101 undef,T.getD 102 undef,T.getD 103 undef,T.getD 104 undef,T.getD 105 undef,T.getD 106 undef,T.getD 107 undef,T.getD 108 undef,T.getD 109 undef,T.getD 110 undef,T.getD 111 undef,T.getD 112 undef,T.getD 113 undef,T.getD 114 undef,T.getD 115 undef,T.getD 116 undef,T.getD 117 undef,T.getD 118 undef,T.getD 119 undef,T.getD 120 undef,T.getD 121 undef,T.getD 122 undef,T.getD 123 undef,T.getD 124 undef,T.getD 125 undef,T.getD 126 undef,T.getD 127 undef,T.getD 128 undef,T.getD 129 undef,T.getD 130 undef,T.getD 131 undef,T.getD 132 undef,T.getD 133 undef,T.getD 134 undef,T.getD 135 undef,T.getD 136 undef,T.getD 137 undef,T.getD 138 undef,T.getD 139 undef,T.getD 140 undef,T.getD 141 undef,T.getD 142 undef,T.getD 143 undef,T.getD 144 undef,T.getD 145 undef,T.getD 146 undef,T.getD 147 undef,T.getD 148 undef,T.getD 149 undef,T.getD 150 undef,T.getD 151 undef,T.getD 152 undef,T.getD 153 undef,T.getD 154 undef,T.getD 155 undef,T.getD 156 undef,T.getD 157 undef,T.getD 158 undef,T.getD 159 undef]:=by
 have h2:T=((List.range 160).map λi=>T.getD i undef).toArray:=by
  apply Array.ext
  ·simp [h]
  ·intro i h1 h3;simp [h1]
 exact h2
section
variable {As own:Nat->Prop} {W:World} {v:jR} {bo:Nat} {c:Frame} {K:List Frame} {Post:Value->World->Prop} {dead:Nat->Prop}
def ax3 (Post:Value->World->Prop) (own:Nat->Prop) (W:World) (v:jR) (c:Frame) (K:List Frame) (t0 t1 t2 t3 t4 t5 t6 t7 t8 t9 t10 t11 t12 t13 t14 t15 t16 t17 t18 t19 t20 t21 t22 t23 t24 t25 t26 t27 t28 t29 t30 t31 t32 t33 t34 t35 t36 t37 t38 t39 t40 t41 t42 t43 t44 t45 t46 t47 t48 t49 t50 t51 t52 t53 t54 t55 t56 t57 t58 t59 t60 t61 t62 t63 t64 t65 t66 t67 t68 t69 t70 t71 t72 t73 t74 t75 t76 t77 t78 t79 t80 t81 t82 t83 t84 t85 t86 t87 t88 t89 t90 t91 t92 t93 t94 t95 t96 t97 t98 t99 t100 t101 t102 t103 t104 t105 t106 t107 t108 t109 t110 t111 t112 t113 t114 t115 t116 t117 t118 t119 t120 t121 t122 t123 t124 t125 t126 t127 t128 t129 t130 t131 t132 t133 t134 t135 t136 t137 t138 t139 t140 t141 t142 t143 t144 t145 t146 t147 t148 t149 t150 t151 t152 t153 t154 t155 t156 t157 t158 t159:Value):Prop:=
 ∀(rR dL:Nat->Prop) (W':World) (A:Option Addr) (cap:Nat),Sl dL W' A [2,3]->W'.tape=W.tape->W'.output=W.output->OsLater W.os W'.os->W.heap.size<=W'.heap.size->(∀b,own b->W'.heap[b]?=W.heap[b]?)->(∀b,own b->dL b)->(∀b,dL b->own b∨W.heap.size<=b)->(∀b,dL b->b<W'.heap.size)->
  jK Tryz.prog Post rR dL (G ((base 14).at ⟨#[t0,t1,t2,t3,t4,t5,t6,t7,t8,t9,t10,.slice A 2 cap,.bool true,.bool true,.int .i64 0,t15,t16,t17,t18,t19,t20,t21,t22,t23,t24,t25,t26,t27,t28,t29,t30,t31,t32,t33,t34,t35,t36,t37,t38,t39,t40,t41,t42,t43,t44,t45,t46,t47,t48,t49,t50,t51,.tuple #[.slice A 2 cap,.bool true,.bool true,.int .i64 0],.agg #[.slice v.ah 2 v.ch,.slice v.ap 5 v.cp,.slice v.lT 4 v.cs,.slice v.ac 4 v.cc],.tuple #[.slice A 2 cap,.bool true,.bool true,.int .i64 0],.slice A 2 cap,.bool true,.bool true,.int .i64 0,t59,t60,t61,t62,t63,t64,t65,t66,t67,t68,t69,t70,t71,t72,t73,t74,t75,t76,t77,t78,t79,t80,t81,t82,t83,t84,t85,t86,t87,t88,t89,t90,t91,t92,t93,t94,t95,t96,t97,t98,t99,t100,t101,t102,t103,t104,t105,t106,t107,t108,t109,t110,t111,t112,t113,t114,t115,t116,t117,t118,t119,t120,t121,t122,t123,t124,t125,t126,t127,t128,t129,t130,t131,t132,t133,t134,t135,t136,t137,t138,t139,t140,t141,t142,t143,t144,t145,t146,t147,t148,t149,t150,t151,t152,t153,t154,t155,t156,t157,t158,t159],[]⟩ [.code W9]) (c::K)) W'
theorem ax4 {fr:Nat×Nat} (hb:xw As own W oJ v) (hlt:∀b,own b->b<W.heap.size) (kU:Tryz.prog.globals.size<W.heap.size) (hbo:own bo) (hbx:W.heap[bo]?=some (.cells #[.slice v.ah 2 v.ch,.slice v.ap 5 v.cp,.slice v.lT 4 v.cs,.slice v.ac 4 v.cc] 26 fr)) (t0 t1 t2 t3 t4 t5 t6 t7 t8 t9 t10 t11 t12 t13 t14 t15 t16 t17 t18 t19 t20 t21 t22 t23 t24 t25 t26 t27 t28 t29 t30 t31 t32 t33 t34 t35 t36 t37 t38 t39 t40 t41 t42 t43 t44 t45 t46 t47 t48 t49 t50 t51 t52 t53 t54 t55 t56 t57 t58 t59 t60 t61 t62 t63 t64 t65 t66 t67 t68 t69 t70 t71 t72 t73 t74 t75 t76 t77 t78 t79 t80 t81 t82 t83 t84 t85 t86 t87 t88 t89 t90 t91 t92 t93 t94 t95 t96 t97 t98 t99 t100 t101 t102 t103 t104 t105 t106 t107 t108 t109 t110 t111 t112 t113 t114 t115 t116 t117 t118 t119 t120 t121 t122 t123 t124 t125 t126 t127 t128 t129 t130 t131 t132 t133 t134 t135 t136 t137 t138 t139 t140 t141 t142 t143 t144 t145 t146 t147 t148 t149 t150 t151 t152 t153 t154 t155 t156 t157 t158 t159:Value) (h8:t8= .pointer (some ⟨bo,0,none⟩)) (hk:ax3 Post own W v c K t0 t1 t2 t3 t4 t5 t6 t7 t8 t9 t10 t11 t12 t13 t14 t15 t16 t17 t18 t19 t20 t21 t22 t23 t24 t25 t26 t27 t28 t29 t30 t31 t32 t33 t34 t35 t36 t37 t38 t39 t40 t41 t42 t43 t44 t45 t46 t47 t48 t49 t50 t51 t52 t53 t54 t55 t56 t57 t58 t59 t60 t61 t62 t63 t64 t65 t66 t67 t68 t69 t70 t71 t72 t73 t74 t75 t76 t77 t78 t79 t80 t81 t82 t83 t84 t85 t86 t87 t88 t89 t90 t91 t92 t93 t94 t95 t96 t97 t98 t99 t100 t101 t102 t103 t104 t105 t106 t107 t108 t109 t110 t111 t112 t113 t114 t115 t116 t117 t118 t119 t120 t121 t122 t123 t124 t125 t126 t127 t128 t129 t130 t131 t132 t133 t134 t135 t136 t137 t138 t139 t140 t141 t142 t143 t144 t145 t146 t147 t148 t149 t150 t151 t152 t153 t154 t155 t156 t157 t158 t159):
 Gw Tryz.prog true Z0 (λown g W=>jK Tryz.prog Post dead own g W) own (G ((base 14).at ⟨#[t0,t1,t2,t3,t4,t5,t6,t7,t8,t9,t10,t11,t12,t13,t14,t15,t16,t17,t18,t19,t20,t21,t22,t23,t24,t25,t26,t27,t28,t29,t30,t31,t32,t33,t34,t35,t36,t37,t38,t39,t40,t41,t42,t43,t44,t45,t46,t47,t48,t49,t50,t51,t52,t53,t54,t55,t56,t57,t58,t59,t60,t61,t62,t63,t64,t65,t66,t67,t68,t69,t70,t71,t72,t73,t74,t75,t76,t77,t78,t79,t80,t81,t82,t83,t84,t85,t86,t87,t88,t89,t90,t91,t92,t93,t94,t95,t96,t97,t98,t99,t100,t101,t102,t103,t104,t105,t106,t107,t108,t109,t110,t111,t112,t113,t114,t115,t116,t117,t118,t119,t120,t121,t122,t123,t124,t125,t126,t127,t128,t129,t130,t131,t132,t133,t134,t135,t136,t137,t138,t139,t140,t141,t142,t143,t144,t145,t146,t147,t148,t149,t150,t151,t152,t153,t154,t155,t156,t157,t158,t159],[]⟩ [.code W8]) (c::K)) W:=by
 subst h8;have HK:=dw hk;clear hk;have hnm:¬Z0.mute:= λh=>h
 simp only [W8,yF,Tryz.f14,dP,eF,ak,Nat.reduceEqDiff,if_true,if_false,reduceIte];have hF:dZ Z0 own W W:=dZ.refl _;refine dH (n:=60) ?_
 repeat w_nl fq
 refine cz λw₁ h₁=>?_
 replace hF:=fq hF h₁;clear h₁;refine Vh (v1:=.slice v.ah 2 v.ch) (v2:=.slice v.ap 5 v.cp) (v3:=.slice v.lT 4 v.cs) (v4:=.slice v.ac 4 v.cc) (o:=?_) (x:=?_) (bb:=bo) (e:=26) (fr:=fr) ?_ ?_ ?_ ?_ ?_ hnm (.inl hbo) ((hF.own _ hbo).trans hbx) ?_
 rotate_left 2
 iterate 2 rfl
 ·k_ne
 iterate 2 rfl
 intro w₂ h₂;replace hF:=fq hF h₂;clear h₂;walk_nrm;refine sJ (o:=?_) (args:=?_) (ats:=?_) ?_ ?_ ?_ ?_ Tryz.func28 VD Mq ?_
 rotate_left 3
 iterate 2 rfl
 ·k_ne
 ·rfl
 intro w₃ h₃;replace hF:=fq hF h₃;clear h₃;walk_nrm;refine .stop λW3 hr3=>?_
 replace hF:=fq hF hr3;clear hr3;have hkp:Kept Z0 own W own W3:=⟨hF, λ_ h=>h, λ_ h=>.inl h⟩;refine ag8 (b:=oJ) (v:=v) (hb.kept hlt hkp) (aK kU hF.size) IC IB ?_
 intro rR dL W' A cap st fu found ji hsl hlen a1 a2 a3 a4 a5 a6 a7 a8;obtain ⟨rfl,rfl,rfl⟩:=VA ji;rw [Frame.finish_at];refine jK.walk ?_ rfl rfl
 have hZ:=hF;clear hF;have hF:dZ Z0 dL W' W':=dZ.refl _;refine dH (n:=100) ?_
 walk_nrm
 iterate 10 (w_nl fq)
 refine cz λw₃ h₃=>.stop λw₄ h₄=>?_
 have hr:=fq (fq hF h₃) h₄;have hnx:=HK.out rR dL w₄ A cap (hsl.rely hr) (hr.tape.trans (a1.trans hZ.tape)) (hr.out.trans (a2.trans hZ.out)) ((hZ.os.trans a3).trans hr.os) (aT hZ.size (aT a4 hr.size)) (λb hb=>(hr.own b (a6 b hb)).trans ((a5 b hb).trans (hZ.own b hb))) a6 (λb hb=>(a7 b hb).imp id λh=>aT hZ.size h) (λb hb=>aK (a8 b hb) hr.size);simp only [W9,yF,Tryz.f14,dP,eF,ak,Nat.reduceEqDiff,if_true,if_false,reduceIte] at hnx;exact hnx
end
end
section
attribute [local instance] noSh jm
section
variable {As own:Nat->Prop} {W:World} {v:jR} {bo:Nat} {c:Frame} {K:List Frame} {Post:Value->World->Prop} {dead:Nat->Prop} {A:Option Addr} {cap:Nat}
theorem aq7 {m2 o2 q2 m4 o4 q4 m6 o6 q6:Nat} (hown:∀b,own b->b<W.heap.size) (kU:Tryz.prog.globals.size<W.heap.size) (hAs:∀b,As b->own b) (hin:∀a,As a->∃c e fr,W.heap[a]?=some (.cells c e fr)∧∀x∈c,fA x=true∨∃p l cp,x= .slice p l cp∧∀q,p=some q->As q.block) (hA:∀a,A=some a->As a.block)
 (g:Nat->Value) (hv:∀i,vs (FA S5 S5 (fH lC S5 S5) (Bd (jX As W.heap.size) W.heap.size)) (g i)=true) (hvt:∀q,v.ah=some q∨v.ap=some q∨v.lT=some q∨v.ac=some q->As q.block)
 (g2:g 2= .slice (some ⟨m2,o2,none⟩) 5 q2) (g3:g 3= .int .i64 0) (g4:g 4= .slice (some ⟨m4,o4,none⟩) 4 q4) (g5:g 5= .int .i64 0) (g6:g 6= .slice (some ⟨m6,o6,none⟩) 2 q6) (g7:g 7= .int .i64 0) (g9:g 9= .int .i64 3) (g10:g 10= .int .i64 0)
 (r2:mM W (some ⟨m2,o2,none⟩) 5 (uG wm)) (r4:mM W (some ⟨m4,o4,none⟩) 4 (BU wm)) (r6:BJ W W.heap.size (some ⟨m6,o6,none⟩) (C9 wm 1)) (rp:BJ W W.heap.size A [2,3])
 (hk:∀(rR dL:Nat->Prop) (W':World),W'.tape=W.tape->W'.output=W.output->OsLater W.os W'.os->W.heap.size<=W'.heap.size->(∀b,own b->W'.heap[b]?=W.heap[b]?)->(∀b,own b->dL b)->(∀b,dL b->own b∨W.heap.size<=b)->(∀b,dL b->b<W'.heap.size)->jK Tryz.prog Post rR dL (G (c.finish (.bool true)) K) W'):
 jK Tryz.prog Post dead own (G ((base 14).at ⟨#[g 0,g 1,g 2,g 3,g 4,g 5,g 6,g 7,g 8,g 9,g 10,.slice A 2 cap,.bool true,.bool true,.int .i64 0,g 15,g 16,g 17,g 18,g 19,g 20,g 21,g 22,g 23,g 24,g 25,g 26,g 27,g 28,g 29,g 30,g 31,g 32,g 33,g 34,g 35,g 36,g 37,g 38,g 39,g 40,g 41,g 42,g 43,g 44,g 45,g 46,g 47,g 48,g 49,g 50,g 51,.tuple #[.slice A 2 cap,.bool true,.bool true,.int .i64 0],.agg #[.slice v.ah 2 v.ch,.slice v.ap 5 v.cp,.slice v.lT 4 v.cs,.slice v.ac 4 v.cc],.tuple #[.slice A 2 cap,.bool true,.bool true,.int .i64 0],.slice A 2 cap,.bool true,.bool true,.int .i64 0,g 59,g 60,g 61,g 62,g 63,g 64,g 65,g 66,g 67,g 68,g 69,g 70,g 71,g 72,g 73,g 74,g 75,g 76,g 77,g 78,g 79,g 80,g 81,g 82,g 83,g 84,g 85,g 86,g 87,g 88,g 89,g 90,g 91,g 92,g 93,g 94,g 95,g 96,g 97,g 98,g 99,g 100,g 101,g 102,g 103,g 104,g 105,g 106,g 107,g 108,g 109,g 110,g 111,g 112,g 113,g 114,g 115,g 116,g 117,g 118,g 119,g 120,g 121,g 122,g 123,g 124,g 125,g 126,g 127,g 128,g 129,g 130,g 131,g 132,g 133,g 134,g 135,g 136,g 137,g 138,g 139,g 140,g 141,g 142,g 143,g 144,g 145,g 146,g 147,g 148,g 149,g 150,g 151,g 152,g 153,g 154,g 155,g 156,g 157,g 158,g 159],[]⟩ [.code W9]) (c::K)) W:=by
 have on:∀b,As b->Bd (jX As W.heap.size) W.heap.size b=true:= λb hb=>gN.2 ⟨sG.2 (.inl hb),hown b (hAs b hb)⟩
 have sl:∀(p:Option Addr) (l c:Nat),(∀q,p=some q->As q.block)->vs (FA S5 S5 (fH lC S5 S5) (Bd (jX As W.heap.size) W.heap.size)) (.slice p l c)=true:= λp l c hp=>by
  cases hq:p with
  |none=>simp
  |some a=>rw [jo,yK];exact on a.block (hp a hq)
 have hsl:=sl A 2 cap hA
 have htu:vs (FA S5 S5 (fH lC S5 S5) (Bd (jX As W.heap.size) W.heap.size)) (.tuple #[.slice A 2 cap,.bool true,.bool true,.int .i64 0])=true:=by
  rw [wC];exact dI hsl (dI (xy _) (dI (xy _) (dI (MO _ _) Oq)))
 have hbk:vs (FA S5 S5 (fH lC S5 S5) (Bd (jX As W.heap.size) W.heap.size)) (.agg #[.slice v.ah 2 v.ch,.slice v.ap 5 v.cp,.slice v.lT 4 v.cs,.slice v.ac 4 v.cc])=true:=by
  rw [rV];exact dI (sl _ _ _ λq h=>hvt q (.inl h)) (dI (sl _ _ _ λq h=>hvt q (.inr (.inl h))) (dI (sl _ _ _ λq h=>hvt q (.inr (.inr (.inl h)))) (dI (sl _ _ _ λq h=>hvt q (.inr (.inr (.inr h)))) Oq)))
 refine jK.walk ?_ rfl rfl
 refine Q9 (P:=lC) (Q:=Tryz.prog) (S:=S5) (Z:=Z0) (own:=own) (X:= λ_=>False) (W:=W) (As:=As) (R:= λv _=>v= .bool true) Vm (Vn S5) Vz Vo kU (λb h=>.inl (hAs b h)) (λ_ h=>h.elim) (λb o hb ho=>?_)
  (λb hb=>⟨hown b hb, λh=>h, λh=>h⟩) (λb h=>h.elim) (λb h=>h.elim) (λb i h=>h.elim) (λh=>h) aq6 Yi aq5 rfl ?_ (λw hz hc _=>?_) λx w' f' dL W' hR hid hkx=>?_
 ·obtain ⟨c,e,fr,h1,h2⟩:=hin b hb;rw [h1] at ho;cases ho;refine ⟨_,_,_,rfl, λx hx=>?_⟩;rcases h2 x hx with h3|⟨p,l,cp,rfl,h3⟩
  ·exact (kE (f:= λb=>b) h3).2
  ·exact sl _ _ _ h3
 ·exact dI (hv 0) (dI (hv 1) (dI (hv 2) (dI (hv 3) (dI (hv 4) (dI (hv 5) (dI (hv 6) (dI (hv 7) (dI (hv 8) (dI (hv 9) (dI (hv 10) (dI hsl (dI (xy _) (dI (xy _) (dI (MO _ _) (dI (hv 15) (dI (hv 16) (dI (hv 17) (dI (hv 18) (dI (hv 19) (dI (hv 20) (dI (hv 21) (dI (hv 22) (dI (hv 23) (dI (hv 24) (dI (hv 25) (dI (hv 26) (dI (hv 27) (dI (hv 28) (dI (hv 29) (dI (hv 30) (dI (hv 31) (dI (hv 32) (dI (hv 33) (dI (hv 34) (dI (hv 35) (dI (hv 36) (dI (hv 37) (dI (hv 38) (dI (hv 39) (dI (hv 40) (dI (hv 41) (dI (hv 42) (dI (hv 43) (dI (hv 44) (dI (hv 45) (dI (hv 46) (dI (hv 47) (dI (hv 48) (dI (hv 49) (dI (hv 50) (dI (hv 51) (dI htu (dI hbk (dI htu (dI hsl (dI (xy _) (dI (xy _) (dI (MO _ _) (dI (hv 59) (dI (hv 60) (dI (hv 61) (dI (hv 62) (dI (hv 63) (dI (hv 64) (dI (hv 65) (dI (hv 66) (dI (hv 67) (dI (hv 68) (dI (hv 69) (dI (hv 70) (dI (hv 71) (dI (hv 72) (dI (hv 73) (dI (hv 74) (dI (hv 75) (dI (hv 76) (dI (hv 77) (dI (hv 78) (dI (hv 79) (dI (hv 80) (dI (hv 81) (dI (hv 82) (dI (hv 83) (dI (hv 84) (dI (hv 85) (dI (hv 86) (dI (hv 87) (dI (hv 88) (dI (hv 89) (dI (hv 90) (dI (hv 91) (dI (hv 92) (dI (hv 93) (dI (hv 94) (dI (hv 95) (dI (hv 96) (dI (hv 97) (dI (hv 98) (dI (hv 99) (dI (hv 100) (dI (hv 101) (dI (hv 102) (dI (hv 103) (dI (hv 104) (dI (hv 105) (dI (hv 106) (dI (hv 107) (dI (hv 108) (dI (hv 109) (dI (hv 110) (dI (hv 111) (dI (hv 112) (dI (hv 113) (dI (hv 114) (dI (hv 115) (dI (hv 116) (dI (hv 117) (dI (hv 118) (dI (hv 119) (dI (hv 120) (dI (hv 121) (dI (hv 122) (dI (hv 123) (dI (hv 124) (dI (hv 125) (dI (hv 126) (dI (hv 127) (dI (hv 128) (dI (hv 129) (dI (hv 130) (dI (hv 131) (dI (hv 132) (dI (hv 133) (dI (hv 134) (dI (hv 135) (dI (hv 136) (dI (hv 137) (dI (hv 138) (dI (hv 139) (dI (hv 140) (dI (hv 141) (dI (hv 142) (dI (hv 143) (dI (hv 144) (dI (hv 145) (dI (hv 146) (dI (hv 147) (dI (hv 148) (dI (hv 149) (dI (hv 150) (dI (hv 151) (dI (hv 152) (dI (hv 153) (dI (hv 154) (dI (hv 155) (dI (hv 156) (dI (hv 157) (dI (hv 158) (dI (hv 159) (Oq))))))))))))))))))))))))))))))))))))))))))))))))))))))))))))))))))))))))))))))))))))))))))))))))))))))))))))))))))))))))))))))))))))))))))))))))))))))))))))))))
 ·have up:∀{k n:Nat} {B:Option Addr} {f:Nat->Nat->Value},Rd W W.heap.size k B n f->Rd w w.heap.size k B n f:= λh hn=>by
   obtain ⟨b,off,e,h1,h2⟩:=h hn;exact ⟨b,off,e,by rw [hz];exact h1, λi j hi hj=>(hc _ _).trans (h2 i j hi hj)⟩
  simp only [g2,g3,g4,g5,g6,g7,g9,g10];have h:=@Lo.ao8 PI w m2 o2 q2 m4 o4 q4 m6 o6 q6 cap A (up r2) (up r4) (up r6) (up rp);rw [Vl] at h;exact h _ _ _ _ _ _ _ _ _ _ _ _ _ _ _ _ _ _ _ _ _ _ _ _ _ _ _ _ _ _ _ _ _ _ _ _ _ _ _ _ _ _ _ _ _ _ _ _ _ _ _ _ _ _ _ _ _ _ _ _ _ _ _ _ _ _ _ _ _ _ _ _ _ _ _ _ _ _ _ _ _ _ _ _ _ _ _ _ _ _ _ _ _ _ _ _ _ _ _ _ _ _ _ _ _ _ _ _ _ _ _ _ _ _ _ _ _ _ _ _ _ _ _ _ _ _ _ _ _ _ _ _ _ _ _ _ _ _ _ _ _ _ _ _ _ _ _ _
 ·subst hR;rw [mZ];refine .stop λW1 hr=>hk dead dL W1 (hr.tape.trans hkx.tape) (hr.out.trans hkx.out) (hkx.os.trans hr.os) (aT hkx.size hr.size) (λb hb=>(hr.own b (hkx.sub b hb)).trans (hkx.kept b (.inl hb) (λh=>h))) hkx.sub (λb hb=>(hkx.new b hb).imp id λh=>h.1) (λb hb=>aK (hkx.lt b hb) hr.size)
end
end
end Go.Proofs.Tryz
