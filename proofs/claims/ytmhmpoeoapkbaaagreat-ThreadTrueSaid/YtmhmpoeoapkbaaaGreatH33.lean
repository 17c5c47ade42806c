/- Part 33. -/
import Derived.Test.YtmhmpoeoapkbaaaGreatH28
import Derived.Test.YtmhmpoeoapkbaaaGreatH32
set_option maxRecDepth 100000
set_option maxHeartbeats 0
set_option linter.all false
namespace Go.Proofs.Tryz
open Go Go.Conc Go.ConcN Go.ConcM Go.RowKit Go.Conc.Lib Go.ConcR.Gen Par
section
attribute [local instance] noSh gX
def l5:List FuncId:=[6,21,23,20,19,9,10,11,12,13,22,46,47,48,49,50,25,26,27,28,29,80,81,53,82,83,84,51,52,54,55,56,57,58,99,100,85,86,87,88,89,101,102,103,104,112]
def S5(g:FuncId):Bool:=l5.contains g
theorem ak4:l5.all (EK ji S5 S5)=true:=by kernel_rfl
theorem TJ(A:Nat->Bool):kL ji (FA S5 S5 (fe ji S5 S5) A):=
 Mr (λg hg=>bF.1 ak4 g (by simpa[S5]using hg)) (λ_ h=>h) A
theorem ak5:fe ji S5 S5 uf=true:=by kernel_rfl
theorem ak6:fe ji S5 S5 W9=true:=by kernel_rfl
theorem ak7:S5 6=true:=by kernel_rfl
theorem V5:ji.funcs[6]?=some Tryz.f6:=by
 unfold ji;rw[zg Tryz.prog _ (by decide)];exact Tryz.func6
def ltB(x y:List Int×Bool):Bool:=decide (x.1.length<y.1.length)||(decide (x.1.length=y.1.length)&&(decide (jq x.1 y.1<0)||(decide (x.1=y.1)&&!x.2&&y.2)))
theorem ZA{x y:List Int×Bool}(h:ltB x y=true):Lt x y:=by
 unfold ltB at h;unfold Lt;simp only[Bool.or_eq_true,bB,decide_eq_true_eq,Bool.not_eq_true']at h;rcases h with h|⟨h1,h2|⟨⟨h2,h3⟩,h4⟩⟩
 .exact .inl h
 .exact .inr ⟨h1,.inl ((zZ _ _).1.1 h2)⟩
 .exact .inr ⟨h1,.inr ⟨h2,h3,h4⟩⟩
theorem PE:(fU (fA lT (-1)) 4 (iI (fA lT (-1)) 4 false).length (iI (fA lT (-1)) 4 true).length).all (λx=>decide (x=([2,3],true))||ltB ([2,3],true) x)=true:=by kernel_rfl
theorem V6:(fU (fA lT (-1)) 4 (iI (fA lT (-1)) 4 false).length (iI (fA lT (-1)) 4 true).length).contains ([2,3],true)=true:=by kernel_rfl
theorem TK{st:List Int}{eO found:Bool}(h:lq (fU (fA lT (-1)) lT.steps.length (iI (fA lT (-1)) lT.steps.length false).length (iI (fA lT (-1)) lT.steps.length true).length) st eO found):st= [2,3]∧eO=true∧found=true:=by
 have h2:lq (fU (fA lT (-1)) 4 (iI (fA lT (-1)) 4 false).length (iI (fA lT (-1)) 4 true).length) st eO found:=h;have hm:([2,3],true)∈fU (fA lT (-1)) 4 (iI (fA lT (-1)) 4 false).length (iI (fA lT (-1)) 4 true).length:=by simpa using V6
 have ha:=bF.1 PE;rcases h2 with⟨_,h3,_⟩|⟨hf,h3,h4⟩
 .rw[h3]at hm;cases hm
 .have h5:=ha _ h3;simp only[Bool.or_eq_true,decide_eq_true_eq]at h5;rcases h5 with h5|h5
  .cases h5;exact⟨rfl,rfl,hf⟩
  .exact absurd (ZA h5) (h4 _ hm)
theorem V7{F F':Fit}{f:Nat->Nat}(hV:F'.V=F.V)(hA:∀b,F.A b=true->F'.A (f b)=true){fn:Fn}(h:Wi F fn=true):Wi F' (T9 f fn)=true:=by
 cases fn with
 |func g=>show F'.V g=true;rw[hV];exact h
 |yield l=>exact hA l h
 |_=>exact h
mutual
theorem LB{F F':Fit}{f:Nat->Nat}(hV:F'.V=F.V)(hA:∀b,F.A b=true->F'.A (f b)=true):∀v:Value,vs F v=true->vs F' (rv f v)=true
 | .bool _,_=>by simp
 | .int _ _,_=>by simp
 | .float _ _,h=>by simp at h
 | .complex _ _ _,h=>by simp at h
 | .string _,_=>by simp
 | .pointer none,_=>by simp
 | .pointer (some a),h=>by simp at h⊢;exact hA _ h
 | .slice none _ _,_=>by simp
 | .slice (some a) l c,h=>by rw[fD,ay,gY,um];rw[gY,um]at h;exact hA _ h
 | .map none,_=>by rw[rv,vs];rfl
 | .map (some r),h=>by rw[rv,vs];rw[vs]at h;exact hA _ h
 | .chan r,h=>by rw[rv,vs];rw[vs]at h;cases r with |none=>rfl|some r=>cases h
 | .func fn a b,h=>by
   rw[vs,bB,bB]at h;rw[rv,vs,bB,bB];exact⟨⟨V7 hV hA h.1.1,Bz hV hA a h.1.2⟩,Bz hV hA b h.2⟩
 | .nilFunc,_=>by simp
 | .iface t v,h=>by rw[vs]at h;rw[rv,vs];exact LB hV hA v h
 | .nilIface,_=>by simp
 | .agg a,h=>by rw[vs]at h;rw[rv,vs];exact Bz hV hA a h
 | .tuple a,h=>by rw[vs]at h;rw[rv,vs];exact Bz hV hA a h
theorem Bz{F F':Fit}{f:Nat->Nat}(hV:F'.V=F.V)(hA:∀b,F.A b=true->F'.A (f b)=true):∀a:Array Value,JK F a=true->JK F' (LU f a)=true
 |⟨l⟩,h=>by rw[JK]at h;rw[LU,JK];exact Nz hV hA l h
theorem Nz{F F':Fit}{f:Nat->Nat}(hV:F'.V=F.V)(hA:∀b,F.A b=true->F'.A (f b)=true):∀l:List Value,JH F l=true->JH F' (GY f l)=true
 | [],_=>by rw[GY,JH]
 |v::l,h=>by
  rw[JH,bB]at h;rw[GY,JH,bB];exact⟨LB hV hA v h.1,Nz hV hA l h.2⟩
end
theorem dx{F:Fit}{v:Value}{l:List Value}(h:vs F v=true)(k:VS F l.toArray):VS F (v::l).toArray:= λx hx=>by
 rcases bD.1 (by simpa using hx)with rfl|hx
 .exact h
 .exact k x (by simpa using hx)
theorem LD{F:Fit}:VS F (List.toArray []):= λx hx=>by simp at hx
section
variable {n:Nat} {w' W':World} {f:Nat->Nat} {dD:Nat->Prop}
theorem LF{k m b off:Nat}{F:Nat->Nat->Value}(hm:Made n w' f dD W')(hb:n<=b)(hlt:∀b,dD b->b<W'.heap.size)(h:Rd w' w'.heap.size k (some ⟨b,off,none⟩) m F)(hF:∀i j,rv f (F i j)=F i j):Rd W' W'.heap.size k (some ⟨f b,off,none⟩) m F:= λhn=>by
 obtain⟨b',off',e,h1,h2⟩:=h hn;cases e
 exact⟨f b,off,rfl,hlt _ (hm.ge b hb h1).2.2, λi j hi hj=>by
  have :=hm.cell b _ _ hb (h2 i j hi hj);rw[hF]at this;exact this⟩
def As5(L:List Nat)(f:Nat->Nat)(x:Nat):Prop:=∃b∈L,x=f b
def Cl5(L:List Nat)(w:World):Prop:=∀b∈L,∃c e fr,w.heap[b]?=some (.cells c e fr)∧∀x∈c,eF x=true∨∃p l cp,x=.slice p l cp∧∀q,p=some q->q.block∈L
theorem NA{L:List Nat}(hm:Made n w' f dD W')(hc:Cl5 L w')(hn:∀b∈L,n<=b)(a:Nat)(h:As5 L f a):∃c e fr,W'.heap[a]?=some (.cells c e fr)∧∀x∈c,eF x=true∨∃p l cp,x=.slice p l cp∧∀q,p=some q->As5 L f q.block:=by
 obtain⟨b,hb,rfl⟩:=h;obtain⟨c,e,fr,h1,h2⟩:=hc b hb;obtain⟨fr',h3⟩:=hm.blk b c e fr (hn b hb) h1;refine⟨_,_,_,h3, λx hx=>?_⟩;obtain⟨y,hy,rfl⟩:=Array.mem_map.1 hx;rcases h2 y hy with h4|⟨p,l,cp,rfl,h4⟩
 .rw[(iP (F:=⟨λ_=>false, λ_=>false, λ_=>false, λ_=>false⟩) (f:=f) h4).1];exact .inl h4
 .refine .inr ⟨p.map (ra f),l,cp,by simp, λq hq=>?_⟩;cases p with
  |none=>cases hq
  |some p=>
   cases hq;exact⟨p.block,h4 p rfl,rfl⟩
theorem NB{L:List Nat}(hm:Made n w' f dD W')(hc:Cl5 L w')(hn:∀b∈L,n<=b)(a:Nat)(h:As5 L f a):dD a:=by
 obtain⟨b,hb,rfl⟩:=h;obtain⟨c,e,fr,h1,h2⟩:=hc b hb;exact(hm.ge b (hn b hb) (aI.1 h1).1).2.2
def Bj(f:Nat->Nat)(n g q:Nat):gJ where
 ah:=some ⟨f (n+1),0,none⟩
 ch:=2
 ap:=some ⟨f (n+2),0,none⟩
 cp:=5
 iT:=some ⟨f (n+13),0,none⟩
 cs:=4
 ac:=some ⟨f g,0,none⟩
 cc:=q
 sv:= λi=>match i with
  |0=>⟨none,0,some ⟨f (n+3),0,none⟩,1⟩
  |1=>⟨some ⟨f (n+5),0,none⟩,1,some ⟨f (n+6),0,none⟩,2⟩
  |2=>⟨none,0,some ⟨f (n+8),0,none⟩,1⟩
  |_=>⟨some ⟨f (n+10),0,none⟩,2,some ⟨f (n+11),0,none⟩,1⟩
theorem TL{g q:Nat}(hm:Made n w' f dD W')(hlt:∀b,dD b->b<W'.heap.size)(hea:∀k,k<18->w'.heap[n+k]?=(La n)[k]?)(hg:n<=g)(hgc:∀j,j<12->w'.cell? ⟨g,j,none⟩=some (.int .i64 (([0,105,110,2,90,90,4,14,16,1,14,20][j]?).getD 0)))(hq:4<=q):
 fC W' W'.heap.size lT (Bj f n g q):=by
 have hc:∀(k:Nat)(c:Array Value)(e:TypeId)(o:Nat)(v:Value),k<18->(La n)[k]?=some (.cells c e)->c[o]?=some v->W'.cell? ⟨f (n+k),o,none⟩=some (rv f v):= λk c e o v hk h1 h2=>by
  refine hm.cell (n+k) o v (by omega) ?_
  rw[ze ((hea k hk).trans h1),h2]
 have hl:∀k,k<18->f (n+k)<W'.heap.size:= λk hk=>by
  have:n+k<w'.heap.size:=by
   have h:=hea k hk;have h2:k<(La n).length:=hk;rw[aN h2]at h;exact(aI.1 h).1
  exact(hm.ge (n+k) (by omega) this).2.1
 have hgl:f g<W'.heap.size:=by
  have h:=hgc 0 (by omega);obtain⟨o,ho,_⟩:=cells_of_cell h;exact(hm.ge g hg (aI.1 ho).1).2.1
 refine⟨λ_=>⟨f (n+1),0,rfl,hl 1 (by omega), λi j hi hj=>?_⟩, λ_=>⟨f (n+2),0,rfl,hl 2 (by omega), λi j hi hj=>?_⟩, λ_=>⟨f (n+13),0,rfl,hl 13 (by omega), λi j hi hj=>?_⟩, λi s hs=>?_, λi s hs=>?_, λ_=>⟨f g,0,rfl,hgl, λi j hi hj=>?_⟩,aJ _,aJ _,aJ _,hq⟩
 .have hi:i<2:=hi;obtain rfl:j=0:=by omega
  obtain rfl|rfl:i=0∨i=1:=by omega
  all_goals exact(hc 1 _ _ _ _ (by omega) rfl rfl).trans (by simp;rfl)
 .have hi:i<5:=hi;obtain rfl:j=0:=by omega
  obtain rfl|rfl|rfl|rfl|rfl:i=0∨i=1∨i=2∨i=3∨i=4:=by omega
  all_goals exact(hc 2 _ _ _ _ (by omega) rfl rfl).trans (by simp;rfl)
 .have hi:i<4:=hi;obtain rfl|rfl|rfl|rfl:i=0∨i=1∨i=2∨i=3:=by omega
  all_goals obtain rfl|rfl|rfl|rfl|rfl|rfl|rfl:j=0∨j=1∨j=2∨j=3∨j=4∨j=5∨j=6:=by omega
  all_goals exact(hc 13 _ _ _ _ (by omega) rfl rfl).trans (by simp;rfl)
 .have hi:i<4:=(aY.1 hs).1;obtain rfl|rfl|rfl|rfl:i=0∨i=1∨i=2∨i=3:=by omega
  .cases hs;exactλh=>absurd h (by decide)
  .cases hs;refineλ_=>⟨f (n+5),0,rfl,hl 5 (by omega), λi j hi hj=>?_⟩
   have hi:i<1:=hi;obtain rfl:j=0:=by omega
   obtain rfl:i=0:=by omega
   exact(hc 5 _ _ _ _ (by omega) rfl rfl).trans (by simp)
  .cases hs;exactλh=>absurd h (by decide)
  .cases hs;refineλ_=>⟨f (n+10),0,rfl,hl 10 (by omega), λi j hi hj=>?_⟩
   have hi:i<2:=hi;obtain rfl:j=0:=by omega
   obtain rfl|rfl:i=0∨i=1:=by omega
   all_goals exact(hc 10 _ _ _ _ (by omega) rfl rfl).trans (by simp)
 .have hi:i<4:=(aY.1 hs).1;obtain rfl|rfl|rfl|rfl:i=0∨i=1∨i=2∨i=3:=by omega
  .cases hs;refineλ_=>⟨f (n+3),0,rfl,hl 3 (by omega), λi j hi hj=>?_⟩
   have hi:i<1:=hi;obtain rfl:j=0:=by omega
   obtain rfl:i=0:=by omega
   exact(hc 3 _ _ _ _ (by omega) rfl rfl).trans (by simp)
  .cases hs;refineλ_=>⟨f (n+6),0,rfl,hl 6 (by omega), λi j hi hj=>?_⟩
   have hi:i<2:=hi;obtain rfl:j=0:=by omega
   obtain rfl|rfl:i=0∨i=1:=by omega
   all_goals exact(hc 6 _ _ _ _ (by omega) rfl rfl).trans (by simp)
  .cases hs;refineλ_=>⟨f (n+8),0,rfl,hl 8 (by omega), λi j hi hj=>?_⟩
   have hi:i<1:=hi;obtain rfl:j=0:=by omega
   obtain rfl:i=0:=by omega
   exact(hc 8 _ _ _ _ (by omega) rfl rfl).trans (by simp)
  .cases hs;refineλ_=>⟨f (n+11),0,rfl,hl 11 (by omega), λi j hi hj=>?_⟩
   have hi:i<1:=hi;obtain rfl:j=0:=by omega
   obtain rfl:i=0:=by omega
   exact(hc 11 _ _ _ _ (by omega) rfl rfl).trans (by simp)
 .have hi:i<4:=hi;have h:= λj hj=>hm.cell g j _ hg (hgc j hj)
  obtain rfl|rfl|rfl|rfl:i=0∨i=1∨i=2∨i=3:=by omega
  all_goals obtain rfl|rfl|rfl:j=0∨j=1∨j=2:=by omega
  all_goals exact(h _ (by omega)).trans (by simp;rfl)
theorem PG{g q:Nat}{L:List Nat}(hm:Made n w' f dD W')(hlt:∀b,dD b->b<W'.heap.size)(hcl:Cl5 L w')(TM:∀b∈L,n<=b)(hk:∀k,1<=k->k<=17->n+k∈L)(hgL:g∈L)(hea:∀k,k<18->w'.heap[n+k]?=(La n)[k]?)(hgc:∀j,j<12->w'.cell? ⟨g,j,none⟩=some (.int .i64 (([0,105,110,2,90,90,4,14,16,1,14,20][j]?).getD 0)))(hq:4<=q):
 sj (As5 L f) dD W' lT (Bj f n g q):=by
 refine⟨TL hm hlt hea (TM g hgL) hgc hq,NB hm hcl TM,NA hm hcl TM, λp hp=>?_, λi s hs p hp=>?_⟩
 .rcases hp with hp|hp|hp|hp
  all_goals cases hp
  .exact⟨_,hk 1 (by omega) (by omega),rfl⟩
  .exact⟨_,hk 2 (by omega) (by omega),rfl⟩
  .exact⟨_,hk 13 (by omega) (by omega),rfl⟩
  .exact⟨_,hgL,rfl⟩
 .have hi:i<4:=(aY.1 hs).1;obtain rfl|rfl|rfl|rfl:i=0∨i=1∨i=2∨i=3:=by omega
  all_goals rcases hp with hp|hp
  all_goals cases hp
  all_goals exact⟨_,hk _ (by omega) (by omega),rfl⟩
end
end
section
attribute [local instance] noSh gX
theorem TN:(Tryz.f13.name== "runtime.NumGoroutine")=false:=by kernel_rfl
theorem ZC(T:Array Value)(h:T.size=160):T= #[T.getD 0 undef,T.getD 1 undef,T.getD 2 undef,T.getD 3 undef,T.getD 4 undef,T.getD 5 undef,T.getD 6 undef,T.getD 7 undef,T.getD 8 undef,T.getD 9 undef,T.getD 10 undef,T.getD 11 undef,T.getD 12 undef,T.getD 13 undef,T.getD 14 undef,T.getD 15 undef,T.getD 16 undef,T.getD 17 undef,T.getD 18 undef,T.getD 19 undef,T.getD 20 undef,T.getD 21 undef,T.getD 22 undef,T.getD 23 undef,T.getD 24 undef,T.getD 25 undef,T.getD 26 undef,T.getD 27 undef,T.getD 28 undef,T.getD 29 undef,T.getD 30 undef,T.getD 31 undef,T.getD 32 undef,T.getD 33 undef,T.getD 34 undef,T.getD 35 undef,T.getD 36 undef,T.getD 37 undef,T.getD 38 undef,T.getD 39 undef,T.getD 40 undef,T.getD 41 undef,T.getD 42 undef,T.getD 43 undef,T.getD 44 undef,T.getD 45 undef,T.getD 46 undef,T.getD 47 undef,T.getD 48 undef,T.getD 49 undef,T.getD 50 undef,T.getD 51 undef,T.getD 52 undef,T.getD 53 undef,T.getD 54 undef,T.getD 55 undef,T.getD 56 undef,T.getD 57 undef,T.getD 58 undef,T.getD 59 undef,T.getD 60 undef,T.getD 61 undef,T.getD 62 undef,T.getD 63 undef,T.getD 64 undef,T.getD 65 undef,T.getD 66 undef,T.getD 67 undef,T.getD 68 undef,T.getD 69 undef,T.getD 70 undef,T.getD 71 undef,T.getD 72 undef,T.getD 73 undef,T.getD 74 undef,T.getD 75 undef,T.getD 76 undef,T.getD 77 undef,T.getD 78 undef,T.getD 79 undef,T.getD 80 undef,T.getD 81 undef,T.getD 82 undef,T.getD 83 undef,T.getD 84 undef,T.getD 85 undef,T.getD 86 undef,T.getD 87 undef,T.getD 88 undef,T.getD 89 undef,T.getD 90 undef,T.getD 91 undef,T.getD 92 undef,T.getD 93 undef,T.getD 94 undef,T.getD 95 undef,T.getD 96 undef,T.getD 97 undef,T.getD 98 undef,T.getD 99 undef,T.getD 100 undef,T.getD 101 undef,T.getD 102 undef,T.getD 103 undef,T.getD 104 undef,T.getD 105 undef,T.getD 106 undef,T.getD 107 undef,T.getD 108 undef,T.getD 109 undef,T.getD 110 undef,T.getD 111 undef,T.getD 112 undef,T.getD 113 undef,T.getD 114 undef,T.getD 115 undef,T.getD 116 undef,T.getD 117 undef,T.getD 118 undef,T.getD 119 undef,T.getD 120 undef,T.getD 121 undef,T.getD 122 undef,T.getD 123 undef,T.getD 124 undef,T.getD 125 undef,T.getD 126 undef,T.getD 127 undef,T.getD 128 undef,T.getD 129 undef,T.getD 130 undef,T.getD 131 undef,T.getD 132 undef,T.getD 133 undef,T.getD 134 undef,T.getD 135 undef,T.getD 136 undef,T.getD 137 undef,T.getD 138 undef,T.getD 139 undef,T.getD 140 undef,T.getD 141 undef,T.getD 142 undef,T.getD 143 undef,T.getD 144 undef,T.getD 145 undef,T.getD 146 undef,T.getD 147 undef,T.getD 148 undef,T.getD 149 undef,T.getD 150 undef,T.getD 151 undef,T.getD 152 undef,T.getD 153 undef,T.getD 154 undef,T.getD 155 undef,T.getD 156 undef,T.getD 157 undef,T.getD 158 undef,T.getD 159 undef]:=by
 have h2:T=((List.range 160).map λi=>T.getD i undef).toArray:=by
  apply Array.ext
  .simp[h]
  .intro i h1 h3;simp[h1]
 exact h2
section
variable {As own:Nat->Prop} {W:World} {v:gJ} {bo:Nat} {c:Frame} {K:List Frame} {Post:Value->World->Prop} {dead:Nat->Prop}
def ar3(Post:Value->World->Prop)(own:Nat->Prop)(W:World)(v:gJ)(c:Frame)(K:List Frame)(t0 t1 t2 t3 t4 t5 t6 t7 t8 t9 t10 t11 t12 t13 t14 t15 t16 t17 t18 t19 t20 t21 t22 t23 t24 t25 t26 t27 t28 t29 t30 t31 t32 t33 t34 t35 t36 t37 t38 t39 t40 t41 t42 t43 t44 t45 t46 t47 t48 t49 t50 t51 t52 t53 t54 t55 t56 t57 t58 t59 t60 t61 t62 t63 t64 t65 t66 t67 t68 t69 t70 t71 t72 t73 t74 t75 t76 t77 t78 t79 t80 t81 t82 t83 t84 t85 t86 t87 t88 t89 t90 t91 t92 t93 t94 t95 t96 t97 t98 t99 qd9 qda qdb qdc qdd t105 qde t107 qdf t109 qdg qdh qdi qdj qdk qdl t116 t117 qdm t119 qdn qdo qdp qdq t124 qdr qds t127 qdt qdu t130 t131 qdv qdw qdx qdy qdz qdA t138 t139 qdB t141 qdC t143 qdD t145 t146 qdE t148 qdF qdG qdH t152 qdI t154 qdJ t156 t157 qdK t159:Value):Prop:=
 ∀(mJ dD:Nat->Prop)(W':World)(A:Option Addr)(cap:Nat),Sl dD W' A [2,3]->W'.tape=W.tape->W'.output=W.output->OsLater W.os W'.os->W.heap.size<=W'.heap.size->(∀b,own b->W'.heap[b]?=W.heap[b]?)->(∀b,own b->dD b)->(∀b,dD b->own b∨W.heap.size<=b)->(∀b,dD b->b<W'.heap.size)->
  iF Tryz.prog Post mJ dD (G ((base 6).at ⟨#[t0,t1,t2,t3,t4,t5,t6,t7,t8,t9,t10,.slice A 2 cap,.bool true,.bool true,.int .i64 0,t15,t16,t17,t18,t19,t20,t21,t22,t23,t24,t25,t26,t27,t28,t29,t30,t31,t32,t33,t34,t35,t36,t37,t38,t39,t40,t41,t42,t43,t44,t45,t46,t47,t48,t49,t50,t51,.tuple #[.slice A 2 cap,.bool true,.bool true,.int .i64 0],.agg #[.slice v.ah 2 v.ch,.slice v.ap 5 v.cp,.slice v.iT 4 v.cs,.slice v.ac 4 v.cc],.tuple #[.slice A 2 cap,.bool true,.bool true,.int .i64 0],.slice A 2 cap,.bool true,.bool true,.int .i64 0,t59,t60,t61,t62,t63,t64,t65,t66,t67,t68,t69,t70,t71,t72,t73,t74,t75,t76,t77,t78,t79,t80,t81,t82,t83,t84,t85,t86,t87,t88,t89,t90,t91,t92,t93,t94,t95,t96,t97,t98,t99,qd9,qda,qdb,qdc,qdd,t105,qde,t107,qdf,t109,qdg,qdh,qdi,qdj,qdk,qdl,t116,t117,qdm,t119,qdn,qdo,qdp,qdq,t124,qdr,qds,t127,qdt,qdu,t130,t131,qdv,qdw,qdx,qdy,qdz,qdA,t138,t139,qdB,t141,qdC,t143,qdD,t145,t146,qdE,t148,qdF,qdG,qdH,t152,qdI,t154,qdJ,t156,t157,qdK,t159],[]⟩ [.code W9]) (c::K)) W'
theorem ar4{fr:Nat×Nat}(hb:sj As own W lT v)(hlt:∀b,own b->b<W.heap.size)(ja:Tryz.prog.globals.size<W.heap.size)(Sy:own bo)(hbx:W.heap[bo]?=some (.cells #[.slice v.ah 2 v.ch,.slice v.ap 5 v.cp,.slice v.iT 4 v.cs,.slice v.ac 4 v.cc] 26 fr))(t0 t1 t2 t3 t4 t5 t6 t7 t8 t9 t10 t11 t12 t13 t14 t15 t16 t17 t18 t19 t20 t21 t22 t23 t24 t25 t26 t27 t28 t29 t30 t31 t32 t33 t34 t35 t36 t37 t38 t39 t40 t41 t42 t43 t44 t45 t46 t47 t48 t49 t50 t51 t52 t53 t54 t55 t56 t57 t58 t59 t60 t61 t62 t63 t64 t65 t66 t67 t68 t69 t70 t71 t72 t73 t74 t75 t76 t77 t78 t79 t80 t81 t82 t83 t84 t85 t86 t87 t88 t89 t90 t91 t92 t93 t94 t95 t96 t97 t98 t99 qd9 qda qdb qdc qdd t105 qde t107 qdf t109 qdg qdh qdi qdj qdk qdl t116 t117 qdm t119 qdn qdo qdp qdq t124 qdr qds t127 qdt qdu t130 t131 qdv qdw qdx qdy qdz qdA t138 t139 qdB t141 qdC t143 qdD t145 t146 qdE t148 qdF qdG qdH t152 qdI t154 qdJ t156 t157 qdK t159:Value)(h8:t8=.pointer (some ⟨bo,0,none⟩))(hk:ar3 Post own W v c K t0 t1 t2 t3 t4 t5 t6 t7 t8 t9 t10 t11 t12 t13 t14 t15 t16 t17 t18 t19 t20 t21 t22 t23 t24 t25 t26 t27 t28 t29 t30 t31 t32 t33 t34 t35 t36 t37 t38 t39 t40 t41 t42 t43 t44 t45 t46 t47 t48 t49 t50 t51 t52 t53 t54 t55 t56 t57 t58 t59 t60 t61 t62 t63 t64 t65 t66 t67 t68 t69 t70 t71 t72 t73 t74 t75 t76 t77 t78 t79 t80 t81 t82 t83 t84 t85 t86 t87 t88 t89 t90 t91 t92 t93 t94 t95 t96 t97 t98 t99 qd9 qda qdb qdc qdd t105 qde t107 qdf t109 qdg qdh qdi qdj qdk qdl t116 t117 qdm t119 qdn qdo qdp qdq t124 qdr qds t127 qdt qdu t130 t131 qdv qdw qdx qdy qdz qdA t138 t139 qdB t141 qdC t143 qdD t145 t146 qdE t148 qdF qdG qdH t152 qdI t154 qdJ t156 t157 qdK t159):
 Gw Tryz.prog true Z0 (λown g W=>iF Tryz.prog Post dead own g W) own (G ((base 6).at ⟨#[t0,t1,t2,t3,t4,t5,t6,t7,t8,t9,t10,t11,t12,t13,t14,t15,t16,t17,t18,t19,t20,t21,t22,t23,t24,t25,t26,t27,t28,t29,t30,t31,t32,t33,t34,t35,t36,t37,t38,t39,t40,t41,t42,t43,t44,t45,t46,t47,t48,t49,t50,t51,t52,t53,t54,t55,t56,t57,t58,t59,t60,t61,t62,t63,t64,t65,t66,t67,t68,t69,t70,t71,t72,t73,t74,t75,t76,t77,t78,t79,t80,t81,t82,t83,t84,t85,t86,t87,t88,t89,t90,t91,t92,t93,t94,t95,t96,t97,t98,t99,qd9,qda,qdb,qdc,qdd,t105,qde,t107,qdf,t109,qdg,qdh,qdi,qdj,qdk,qdl,t116,t117,qdm,t119,qdn,qdo,qdp,qdq,t124,qdr,qds,t127,qdt,qdu,t130,t131,qdv,qdw,qdx,qdy,qdz,qdA,t138,t139,qdB,t141,qdC,t143,qdD,t145,t146,qdE,t148,qdF,qdG,qdH,t152,qdI,t154,qdJ,t156,t157,qdK,t159],[]⟩ [.code W8]) (c::K)) W:=by
 subst h8;have HK:=dw hk;clear hk;have hnm:¬Z0.mute:= λh=>h
 simp only[W8,uf,Tryz.f6,fE,jF,ak,Nat.reduceEqDiff,if_true,if_false,reduceIte];have hF:dM Z0 own W W:=dM.refl _;refine dG (n:=60) ?_
 repeat w_nl eH
 refine cz λbJ bH=>?_
 replace hF:=eH hF bH;clear bH;refine Tm (v1:=.slice v.ah 2 v.ch) (v2:=.slice v.ap 5 v.cp) (v3:=.slice v.iT 4 v.cs) (v4:=.slice v.ac 4 v.cc) (o:=?_) (x:=?_) (bb:=bo) (e:=26) (fr:=fr) ?_ ?_ ?_ ?_ ?_ hnm (.inl Sy) ((hF.own _ Sy).trans hbx) ?_
 rotate_left 2
 iterate 2 rfl
 .k_ne
 iterate 2 rfl
 intro bL bI;replace hF:=eH hF bI;clear bI;walk_nrm;refine nK (o:=?_) (args:=?_) (ats:=?_) ?_ ?_ ?_ ?_ Tryz.func13 TN JC ?_
 rotate_left 3
 iterate 2 rfl
 .k_ne
 .rfl
 intro bK bO;replace hF:=eH hF bO;clear bO;walk_nrm;refine .stop λW3 hr3=>?_
 replace hF:=eH hF hr3;clear hr3;have hkp:Kept Z0 own W own W3:=⟨hF, λ_ h=>h, λ_ h=>.inl h⟩;refine Zz (b:=lT) (v:=v) (hb.kept hlt hkp) (aK ja hF.size) EW EU ?_
 intro mJ dD W' A cap st eO found iq hsl _ hlen a1 a2 a3 a4 a5 a6 a7 a8;obtain⟨rfl,rfl,rfl⟩:=TK iq;rw[Frame.finish_at];refine iF.walk ?_ rfl rfl
 have hZ:=hF;clear hF;have hF:dM Z0 dD W' W':=dM.refl _;refine dG (n:=100) ?_
 walk_nrm
 iterate 10 (w_nl eH)
 refine cz λbK bO=>.stop λbP bU=>?_
 have hr:=eH (eH hF bO) bU;have hnx:=HK.out mJ dD bP A cap (hsl.rely hr) (hr.tape.trans (a1.trans hZ.tape)) (hr.out.trans (a2.trans hZ.out)) ((hZ.os.trans a3).trans hr.os) (aS hZ.size (aS a4 hr.size)) (λb hb=>(hr.own b (a6 b hb)).trans ((a5 b hb).trans (hZ.own b hb))) a6 (λb hb=>(a7 b hb).imp id λh=>aS hZ.size h) (λb hb=>aK (a8 b hb) hr.size);simp only[W9,uf,Tryz.f6,fE,jF,ak,Nat.reduceEqDiff,if_true,if_false,reduceIte]at hnx;exact hnx
end
end
section
attribute [local instance] noSh gX
section
variable {As own:Nat->Prop} {W:World} {v:gJ} {bo:Nat} {c:Frame} {K:List Frame} {Post:Value->World->Prop} {dead:Nat->Prop} {A:Option Addr} {cap:Nat}
theorem ak8{m2 o2 q2 m4 o4 q4 m6 o6 q6:Nat}(hown:∀b,own b->b<W.heap.size)(ja:Tryz.prog.globals.size<W.heap.size)(hAs:∀b,As b->own b)(hin:∀a,As a->∃c e fr,W.heap[a]?=some (.cells c e fr)∧∀x∈c,eF x=true∨∃p l cp,x=.slice p l cp∧∀q,p=some q->As q.block)(hA:∀a,A=some a->As a.block)
 (g:Nat->Value) (hv:∀i,vs (FA S5 S5 (fe ji S5 S5) (Bd (iL As W.heap.size) W.heap.size)) (g i)=true) (hvt:∀q,v.ah=some q∨v.ap=some q∨v.iT=some q∨v.ac=some q->As q.block)
 (g2:g 2=.slice (some ⟨m2,o2,none⟩) 5 q2) (g3:g 3=.int .i64 0) (g4:g 4=.slice (some ⟨m4,o4,none⟩) 4 q4) (g5:g 5=.int .i64 0) (g6:g 6=.slice (some ⟨m6,o6,none⟩) 2 q6) (g7:g 7=.int .i64 0) (g9:g 9=.int .i64 3) (g10:g 10=.int .i64 0)
 (r2:jR W (some ⟨m2,o2,none⟩) 5 (p8 qV)) (r4:jR W (some ⟨m4,o4,none⟩) 4 (yY qV)) (r6:xJ W W.heap.size (some ⟨m6,o6,none⟩) (zT qV 1)) (rp:xJ W W.heap.size A [2,3])
 (hk:∀(mJ dD:Nat->Prop)(W':World),W'.tape=W.tape->W'.output=W.output->OsLater W.os W'.os->W.heap.size<=W'.heap.size->(∀b,own b->W'.heap[b]?=W.heap[b]?)->(∀b,own b->dD b)->(∀b,dD b->own b∨W.heap.size<=b)->(∀b,dD b->b<W'.heap.size)->iF Tryz.prog Post mJ dD (G (c.finish (.bool true)) K) W'):
 iF Tryz.prog Post dead own (G ((base 6).at ⟨#[g 0,g 1,g 2,g 3,g 4,g 5,g 6,g 7,g 8,g 9,g 10,.slice A 2 cap,.bool true,.bool true,.int .i64 0,g 15,g 16,g 17,g 18,g 19,g 20,g 21,g 22,g 23,g 24,g 25,g 26,g 27,g 28,g 29,g 30,g 31,g 32,g 33,g 34,g 35,g 36,g 37,g 38,g 39,g 40,g 41,g 42,g 43,g 44,g 45,g 46,g 47,g 48,g 49,g 50,g 51,.tuple #[.slice A 2 cap,.bool true,.bool true,.int .i64 0],.agg #[.slice v.ah 2 v.ch,.slice v.ap 5 v.cp,.slice v.iT 4 v.cs,.slice v.ac 4 v.cc],.tuple #[.slice A 2 cap,.bool true,.bool true,.int .i64 0],.slice A 2 cap,.bool true,.bool true,.int .i64 0,g 59,g 60,g 61,g 62,g 63,g 64,g 65,g 66,g 67,g 68,g 69,g 70,g 71,g 72,g 73,g 74,g 75,g 76,g 77,g 78,g 79,g 80,g 81,g 82,g 83,g 84,g 85,g 86,g 87,g 88,g 89,g 90,g 91,g 92,g 93,g 94,g 95,g 96,g 97,g 98,g 99,g 100,g 101,g 102,g 103,g 104,g 105,g 106,g 107,g 108,g 109,g 110,g 111,g 112,g 113,g 114,g 115,g 116,g 117,g 118,g 119,g 120,g 121,g 122,g 123,g 124,g 125,g 126,g 127,g 128,g 129,g 130,g 131,g 132,g 133,g 134,g 135,g 136,g 137,g 138,g 139,g 140,g 141,g 142,g 143,g 144,g 145,g 146,g 147,g 148,g 149,g 150,g 151,g 152,g 153,g 154,g 155,g 156,g 157,g 158,g 159],[]⟩ [.code W9]) (c::K)) W:=by
 have on:∀b,As b->Bd (iL As W.heap.size) W.heap.size b=true:= λb hb=>gH.2 ⟨mZ.2 (.inl hb),hown b (hAs b hb)⟩
 have sl:∀(p:Option Addr)(l c:Nat),(∀q,p=some q->As q.block)->vs (FA S5 S5 (fe ji S5 S5) (Bd (iL As W.heap.size) W.heap.size)) (.slice p l c)=true:= λp l c hp=>by
  cases hq:p with
  |none=>simp
  |some a=>rw[gY,um];exact on a.block (hp a hq)
 have hsl:=sl A 2 cap hA
 have htu:vs (FA S5 S5 (fe ji S5 S5) (Bd (iL As W.heap.size) W.heap.size)) (.tuple #[.slice A 2 cap,.bool true,.bool true,.int .i64 0])=true:=by
  rw[q9];exact dx hsl (dx (sw _) (dx (sw _) (dx (Fv _ _) LD)))
 have hbk:vs (FA S5 S5 (fe ji S5 S5) (Bd (iL As W.heap.size) W.heap.size)) (.agg #[.slice v.ah 2 v.ch,.slice v.ap 5 v.cp,.slice v.iT 4 v.cs,.slice v.ac 4 v.cc])=true:=by
  rw[lV];exact dx (sl _ _ _ λq h=>hvt q (.inl h)) (dx (sl _ _ _ λq h=>hvt q (.inr (.inl h))) (dx (sl _ _ _ λq h=>hvt q (.inr (.inr (.inl h)))) (dx (sl _ _ _ λq h=>hvt q (.inr (.inr (.inr h)))) LD)))
 refine iF.walk ?_ rfl rfl
 refine OA (P:=ji) (Q:=Tryz.prog) (S:=S5) (Z:=Z0) (own:=own) (X:= λ_=>False) (W:=W) (As:=As) (R:= λv _=>v=.bool true) Tv (Tw S5) TJ Tx ja (λb h=>.inl (hAs b h)) (λ_ h=>h.elim) (λb o hb ho=>?_)
  (λb hb=>⟨hown b hb, λh=>h, λh=>h⟩) (λb h=>h.elim) (λb h=>h.elim) (λb i h=>h.elim) (λh=>h) ak7 V5 ak6 rfl ?_ (λw hz hc _=>?_) λx w' f' dD W' hR hid hkx=>?_
 .obtain⟨c,e,fr,h1,h2⟩:=hin b hb;rw[h1]at ho;cases ho;refine⟨_,_,_,rfl, λx hx=>?_⟩;rcases h2 x hx with h3|⟨p,l,cp,rfl,h3⟩
  .exact(iP (f:= λb=>b) h3).2
  .exact sl _ _ _ h3
 .exact dx (hv 0) (dx (hv 1) (dx (hv 2) (dx (hv 3) (dx (hv 4) (dx (hv 5) (dx (hv 6) (dx (hv 7) (dx (hv 8) (dx (hv 9) (dx (hv 10) (dx hsl (dx (sw _) (dx (sw _) (dx (Fv _ _) (dx (hv 15) (dx (hv 16) (dx (hv 17) (dx (hv 18) (dx (hv 19) (dx (hv 20) (dx (hv 21) (dx (hv 22) (dx (hv 23) (dx (hv 24) (dx (hv 25) (dx (hv 26) (dx (hv 27) (dx (hv 28) (dx (hv 29) (dx (hv 30) (dx (hv 31) (dx (hv 32) (dx (hv 33) (dx (hv 34) (dx (hv 35) (dx (hv 36) (dx (hv 37) (dx (hv 38) (dx (hv 39) (dx (hv 40) (dx (hv 41) (dx (hv 42) (dx (hv 43) (dx (hv 44) (dx (hv 45) (dx (hv 46) (dx (hv 47) (dx (hv 48) (dx (hv 49) (dx (hv 50) (dx (hv 51) (dx htu (dx hbk (dx htu (dx hsl (dx (sw _) (dx (sw _) (dx (Fv _ _) (dx (hv 59) (dx (hv 60) (dx (hv 61) (dx (hv 62) (dx (hv 63) (dx (hv 64) (dx (hv 65) (dx (hv 66) (dx (hv 67) (dx (hv 68) (dx (hv 69) (dx (hv 70) (dx (hv 71) (dx (hv 72) (dx (hv 73) (dx (hv 74) (dx (hv 75) (dx (hv 76) (dx (hv 77) (dx (hv 78) (dx (hv 79) (dx (hv 80) (dx (hv 81) (dx (hv 82) (dx (hv 83) (dx (hv 84) (dx (hv 85) (dx (hv 86) (dx (hv 87) (dx (hv 88) (dx (hv 89) (dx (hv 90) (dx (hv 91) (dx (hv 92) (dx (hv 93) (dx (hv 94) (dx (hv 95) (dx (hv 96) (dx (hv 97) (dx (hv 98) (dx (hv 99) (dx (hv 100) (dx (hv 101) (dx (hv 102) (dx (hv 103) (dx (hv 104) (dx (hv 105) (dx (hv 106) (dx (hv 107) (dx (hv 108) (dx (hv 109) (dx (hv 110) (dx (hv 111) (dx (hv 112) (dx (hv 113) (dx (hv 114) (dx (hv 115) (dx (hv 116) (dx (hv 117) (dx (hv 118) (dx (hv 119) (dx (hv 120) (dx (hv 121) (dx (hv 122) (dx (hv 123) (dx (hv 124) (dx (hv 125) (dx (hv 126) (dx (hv 127) (dx (hv 128) (dx (hv 129) (dx (hv 130) (dx (hv 131) (dx (hv 132) (dx (hv 133) (dx (hv 134) (dx (hv 135) (dx (hv 136) (dx (hv 137) (dx (hv 138) (dx (hv 139) (dx (hv 140) (dx (hv 141) (dx (hv 142) (dx (hv 143) (dx (hv 144) (dx (hv 145) (dx (hv 146) (dx (hv 147) (dx (hv 148) (dx (hv 149) (dx (hv 150) (dx (hv 151) (dx (hv 152) (dx (hv 153) (dx (hv 154) (dx (hv 155) (dx (hv 156) (dx (hv 157) (dx (hv 158) (dx (hv 159) (LD))))))))))))))))))))))))))))))))))))))))))))))))))))))))))))))))))))))))))))))))))))))))))))))))))))))))))))))))))))))))))))))))))))))))))))))))))))))))))))))))
 .have up:∀{k n:Nat}{B:Option Addr}{f:Nat->Nat->Value},Rd W W.heap.size k B n f->Rd w w.heap.size k B n f:= λh hn=>by
   obtain⟨b,off,e,h1,h2⟩:=h hn;exact⟨b,off,e,by rw[hz];exact h1, λi j hi hj=>(hc _ _).trans (h2 i j hi hj)⟩
  simp only[g2,g3,g4,g5,g6,g7,g9,g10];have h:=@Lo.ai8 Nu w m2 o2 q2 m4 o4 q4 m6 o6 q6 cap A (up r2) (up r4) (up r6) (up rp);rw[Tu]at h;exact h _ _ _ _ _ _ _ _ _ _ _ _ _ _ _ _ _ _ _ _ _ _ _ _ _ _ _ _ _ _ _ _ _ _ _ _ _ _ _ _ _ _ _ _ _ _ _ _ _ _ _ _ _ _ _ _ _ _ _ _ _ _ _ _ _ _ _ _ _ _ _ _ _ _ _ _ _ _ _ _ _ _ _ _ _ _ _ _ _ _ _ _ _ _ _ _ _ _ _ _ _ _ _ _ _ _ _ _ _ _ _ _ _ _ _ _ _ _ _ _ _ _ _ _ _ _ _ _ _ _ _ _ _ _ _ _ _ _ _ _ _ _ _ _ _ _ _ _
 .subst hR;rw[jZ];refine .stop λW1 hr=>hk dead dD W1 (hr.tape.trans hkx.tape) (hr.out.trans hkx.out) (hkx.os.trans hr.os) (aS hkx.size hr.size) (λb hb=>(hr.own b (hkx.sub b hb)).trans (hkx.kept b (.inl hb) (λh=>h))) hkx.sub (λb hb=>(hkx.new b hb).imp id λh=>h.1) (λb hb=>aK (hkx.lt b hb) hr.size)
end
end
section
attribute [local instance] noSh gX
theorem ZE:Frame.enter Tryz.prog 6 #[] .normal=(base 6).at ⟨Array.replicate 160 undef,[]⟩ [.code uf]:=by
 have h:Tryz.prog.funcs[6]?=some Tryz.f6:=Tryz.func6
 have hb:Tryz.f6.body=some uf:=by unfold uf Tryz.f6;rfl
 have hn:Tryz.f6.ntmps=160:=by unfold Tryz.f6;rfl
 simp[Frame.enter,h,hb,hn,Frame.at,base]
theorem DW{W W2:World}{k n b o:Nat}{F:Nat->Nat->Value}(h:Rd W W.heap.size k (some ⟨b,o,none⟩) n F)(hb:W2.heap[b]?=W.heap[b]?)(hz:W.heap.size<=W2.heap.size):Rd W2 W2.heap.size k (some ⟨b,o,none⟩) n F:= λhn=>by
 obtain⟨b',o',e,h1,h2⟩:=h hn;cases e;exact⟨b,o,rfl,aK h1 hz, λi j hi hj=>(fJ hb _).trans (h2 i j hi hj)⟩
theorem jd{f:Nat->Nat}{T:Array Value}{i:Nat}{v:Value}(h:T[i]?=some v):(T.map (rv f)).getD i undef=rv f v:=by
 rw[aA,aG,h];rfl
theorem LH:Flat Tryz.prog 6 (.bool true):=by
 intro Post dead own W c K hcm hgl hk;refine iF.lt rfl rfl λho=>iF.walk ?_ rfl rfl
 rw[ZE];refine OB (P:=ji) (Q:=Tryz.prog) (S:=S5) (Z:=Z0) (own:=own) (W:=W) (T:=ai3 W.heap.size) (z:=W8) Tv (Tw S5) TJ Tx hgl (λb hb=>⟨(ho b hb).1, λh=>h, λh=>h⟩) (λb h=>h.elim) (λb h=>h.elim) (λb i h=>h.elim) (λh=>h) ak7 ak5 rfl (λx hx=>?_) (λa w h=>?_) (λw hz=>?_) λa' w' f' dD W' hT hvs hkp hmd=>?_
 .have:x=undef:=(Array.mem_replicate.1 hx).2;rw[this];exact oQ
 .obtain⟨_,_,_,_,_,_,_,_,_,_,_,_,_,h,_⟩:=h;exact h.1
 .have h:=@Lo.ap5 Nu w W8 rfl;rw[hz,Tu]at h;exact h
 obtain⟨L,bo,g,q,m2,o2,q2,m4,o4,q4,m6,o6,q6,⟨hd,hsz,hvl⟩,hcl,⟨e2,e3,e4,e5,e6,e7,e8,e9,e10⟩,⟨lbo,lg,lm2,lm4,lm6,lk,lge⟩,hbx,hq4,hea,hgc,r2,r4,r6⟩:=hT;have hlt:∀b,dD b->b<W'.heap.size:= λb hb=>(hkp.new b hb).elim (λh=>aK (ho b h).1 hkp.rely.size) λh=>h.2
 have fresh:∀{i b o l cp:Nat},a'.tmps[i]?=some (.slice (some ⟨b,o,none⟩) l cp)->W.heap.size<=b:= λ{i b o l cp}h=>by
  have h1:=hvs _ (aZ h);rw[gY,um]at h1;exact(mZ.1 (gH.1 h1).1).elim az id
 have TM:∀b∈L,W.heap.size<=b:= λb hb=>by
  rcases lge b hb with h|rfl|rfl|rfl
  .exact h
  .exact fresh e2
  .exact fresh e4
  .exact fresh e6
 have hbC:=PG (g:=g) (q:=q) (L:=L) hmd hlt hcl TM lk lg hea hgc hq4;obtain⟨fr',ar5⟩:=hmd.blk bo _ _ _ (TM bo lbo) hbx
 have ar6:W'.heap[f' bo]?=some (.cells #[.slice (Bj f' W.heap.size g q).ah 2 (Bj f' W.heap.size g q).ch,.slice (Bj f' W.heap.size g q).ap 5 (Bj f' W.heap.size g q).cp,.slice (Bj f' W.heap.size g q).iT 4 (Bj f' W.heap.size g q).cs,.slice (Bj f' W.heap.size g q).ac 4 (Bj f' W.heap.size g q).cc] 26 fr'):=by
  rw[ar5];simp only[List.map_toArray,aC,List.map_nil,fD];rfl
 have V8:∀b∈L,dD (f' b):= λb hb=>NB hmd hcl TM _ ⟨b,hb,rfl⟩
 have hsz':(a'.tmps.map (rv f')).size=160:=by simpa using hsz
 rw[ZC _ hsz'];refine ar4 (v:=Bj f' W.heap.size g q) (bo:=f' bo) (fr:=fr') hbC hlt (aK hgl hkp.rely.size) (V8 bo lbo) ar6 _ _ _ _ _ _ _ _ _ _ _ _ _ _ _ _ _ _ _ _ _ _ _ _ _ _ _ _ _ _ _ _ _ _ _ _ _ _ _ _ _ _ _ _ _ _ _ _ _ _ _ _ _ _ _ _ _ _ _ _ _ _ _ _ _ _ _ _ _ _ _ _ _ _ _ _ _ _ _ _ _ _ _ _ _ _ _ _ _ _ _ _ _ _ _ _ _ _ _ _ _ _ _ _ _ _ _ _ _ _ _ _ _ _ _ _ _ _ _ _ _ _ _ _ _ _ _ _ _ _ _ _ _ _ _ _ _ _ _ _ _ _ _ _ _ _ _ _ _ _ _ _ _ _ _ _ _ _ _ _ ((jd e8).trans (by first|(rw[fD];rfl)|(rw[dX];rfl))) ?_
 intro mJ xC W2 A cap hsl b1 b2 b3 b4 b5 b6 b7 b8;have same:∀b∈L,W2.heap[f' b]?=W'.heap[f' b]?:= λb hb=>b5 _ (V8 b hb)
 refine ak8 (As:= λx=>As5 L f' x∨∃a,A=some a∧x=a.block) (v:=Bj f' W.heap.size g q) (A:=A) (cap:=cap) b8 (aK hgl (aS hkp.rely.size b4)) (λb hb=>?_) (λa ha=>?_) (λa ha=>.inr ⟨a,ha,rfl⟩) (λi=>(a'.tmps.map (rv f')).getD i undef) (λi=>?_) (λp hp=>.inl (hbC.top p hp))
  ((jd e2).trans (by first|(rw[fD];rfl)|(rw[dX];rfl))) ((jd e3).trans (by simp)) ((jd e4).trans (by first|(rw[fD];rfl)|(rw[dX];rfl))) ((jd e5).trans (by simp)) ((jd e6).trans (by first|(rw[fD];rfl)|(rw[dX];rfl))) ((jd e7).trans (by simp)) ((jd e9).trans (by simp)) ((jd e10).trans (by simp))
  (DW (LF hmd (TM _ lm2) hlt r2 λi j=>by simp) (same _ lm2) b4) (DW (LF hmd (TM _ lm4) hlt r4 λi j=>by simp) (same _ lm4) b4) (DW (LF hmd (TM _ lm6) hlt r6 λi j=>by simp) (same _ lm6) b4) hsl.rd ?_
 .rcases hb with⟨x,hx,rfl⟩|⟨a,ha,rfl⟩
  .exact b6 _ (V8 x hx)
  .exact(hsl.blk a ha).1
 .rcases ha with h|⟨p,hp,rfl⟩
  .obtain⟨cc,e,fr,h1,h2⟩:=NA hmd hcl TM a h;obtain⟨x,hx,rfl⟩:=h;refine⟨cc,e,fr,(same x hx).trans h1, λy hy=>(h2 y hy).imp id λ⟨p,l,cp,h3,h4⟩=>⟨p,l,cp,h3, λq hq=>.inl (h4 q hq)⟩⟩
  .obtain⟨_,cur,e,fr,h2,h3⟩:=hsl.blk p hp;exact⟨cur,e,fr,h2, λy hy=>.inl (h3 y hy)⟩
 .by_cases hi:i<a'.tmps.size
  .rw[jd (aW hi)];refine LB (F:=FA S5 S5 (fe ji S5 S5) λb=>decide (b∈L)) ?_ (λb hb=>?_) _ (hvl S5 (fe ji S5 S5) _ (Array.getElem_mem hi))
   .rfl
   have hb:b∈L:=of_decide_eq_true hb;exact gH.2 ⟨mZ.2 (.inl (.inl ⟨b,hb,rfl⟩)),b8 _ (b6 _ (V8 b hb))⟩
  .rw[aA,Array.getElem?_eq_none (by simpa using hi)];exact oQ
 .intro ak9 ar7 W3 k1 k2 k3 k4 k5 k6 k7 k8;have hz:=hkp.rely.size
  exact hk ak9 ar7 W3 (k1.trans (b1.trans hkp.rely.tape)) (k2.trans (b2.trans hkp.rely.out)) ((hkp.rely.os.trans b3).trans k3) (aS hz (aS b4 k4)) (λb hb=>(k5 b (b6 b (hkp.sub b hb))).trans ((b5 b (hkp.sub b hb)).trans (hkp.rely.own b hb))) (λb hb=>k6 b (b6 b (hkp.sub b hb))) (λb hb=>by
   rcases k7 b hb with h|h
   .rcases b7 b h with h|h
    .exact(hkp.new b h).imp id λh=>h.1
    .exact .inr (by omega)
   .exact .inr (by omega)) k8
end
end Go.Proofs.Tryz
