/- Part 12. -/
import Derived.Test.YtnemnkmojiljmaaGreatQ10
import Derived.Test.YtnemnkmojiljmaaGreatH27
import Derived.Test.YtnemnkmojiljmaaGreatH28
import Derived.Test.YtnemnkmojiljmaaGreatH29
import Derived.Test.YtnemnkmojiljmaaGreatQ02
set_option maxRecDepth 100000
set_option maxHeartbeats 0
set_option linter.all false
section
namespace Go.Proofs
open Go Go.RowKit
variable [Lo.St]
def scB (b:dO) (x:jD):dO:={ b with dA:=b.dA++ [x] }
theorem bd_snoc (l:List jD) (x:jD) (p:Int):je (l++ [x]) p=PU p (je l p) x:=by unfold je;rw [List.foldl_append];rfl
theorem webL_pile (b:dO) (hand:Int) {p:Nat} (hp:p<b.dz.length):(fA b hand)[p]?=some (mh b p):=by
 unfold fA eG;rw [List.append_assoc,List.getElem?_append_left (by simpa using hp),List.getElem?_map,List.getElem?_range hp];rfl
theorem web_scale (b:dO) (hand:Int) {p:Nat} (hp:p<b.dz.length) (n:Int):
 fA (scB b ⟨p,n,n⟩) hand=(fA b hand).set p ⟨max (mh b p).lo n,min (mh b p).hi n,(mh b p).fr,(mh b p).to⟩:=by
 have e:∀k,fq (scB b ⟨p,n,n⟩) hand k=fq b hand k:= λk=>by
  induction k with
  |zero=>rfl
  |succ k ih=>unfold fq;rw [ih];rfl
 unfold fA;rw [e];show (eG (scB b ⟨p,n,n⟩) b.dz.length++fq b hand b.steps.length)++_=_;rw [List.append_assoc,List.append_assoc,List.set_append_left _ _ (by simpa [eG] using hp)];congr 1;refine List.ext_getElem? λq=>?_
 unfold eG;rw [List.getElem?_map]
 by_cases hq:q<b.dz.length
 ·rw [List.getElem?_range hq,Option.map_some]
  by_cases e:q=p
  ·subst e;rw [List.getElem?_set_self (by simpa using hq)];unfold mh scB;dsimp only;rw [bd_snoc];unfold PU;rw [if_pos rfl]
  ·rw [List.getElem?_set_ne (λh=>e h.symm),List.getElem?_map,List.getElem?_range hq,Option.map_some];unfold mh scB;dsimp only;rw [bd_snoc];unfold PU;rw [if_neg (by dsimp only;omega)]
 ·rw [List.getElem?_eq_none (by simpa using hq),List.getElem?_eq_none (by simpa using hq)];rfl
theorem spans_pile {b:dO} {p:Nat} (hp:p<b.dz.length):Ends (fA b (-1)) (2 ^ dZ b (-1)) (mh b p) (lowAt (p8 b) p) (highAt (p8 b) p):=ends_of (webL_pile b (-1) hp)
theorem bd_in (sc:List jD) (p:Int):0<=(je sc p).1∧(je sc p).2<=1000000:=M5 p sc (0,1000000)
theorem ends_book {b:dO} {p:Nat} (hp:p<b.dz.length) (hh:qR b=true):0<=lowAt (p8 b) p∧lowAt (p8 b) p<=highAt (p8 b) p∧highAt (p8 b) p<=1000000:=by
 have h:=spans_pile hp;have h1:=bd_in b.dA (p:Int);have h2:=h.l0;have h3:=h.h0;refine ⟨?_,ends_le (webL_pile b (-1) hp) hh,?_⟩
 ·have :(mh b p).lo=(je b.dA p).1:=rfl;omega
 ·have :(mh b p).hi=(je b.dA p).2:=rfl;omega
theorem scale_in {b:dO} {p:Nat} (hp:p<b.dz.length) (hh:qR b=true) {n:Int} (h1:lowAt (p8 b) p<=n) (h2:n<=highAt (p8 b) p):
 qR (scB b ⟨p,n,n⟩)=true∧lowAt (p8 (scB b ⟨p,n,n⟩)) p=n∧highAt (p8 (scB b ⟨p,n,n⟩)) p=n:=by
 have h:=spans_pile hp;have h3:=h.l0;have h4:=h.h0;have hx:=webL_pile b (-1) hp;have hw:=web_scale b (-1) hp n;rw [Int.max_eq_right (by omega),Int.min_eq_right (by omega)] at hw
 have hy:qR (scB b ⟨p,n,n⟩)=true:=by
  unfold qR;rw [hw];exact known_holds hx hh h1 h2
 refine ⟨hy,?_⟩;have hp':p<(scB b ⟨p,n,n⟩).dz.length:=hp;have hl:lowAt (p8 (scB b ⟨p,n,n⟩)) p<=highAt (p8 (scB b ⟨p,n,n⟩)) p:=ends_le (webL_pile _ (-1) hp') hy;have h5:=spans_pile hp';have h6:=h5.l0;have h7:=h5.h0
 have e:mh (scB b ⟨p,n,n⟩) p=⟨n,n,(mh b p).fr,(mh b p).to⟩:=by
  have :=webL_pile (scB b ⟨p,n,n⟩) (-1) hp';rw [hw,List.getElem?_set_self (List.getElem?_eq_some_iff.1 hx).1] at this;exact (Option.some.inj this).symm
 rw [e] at h6 h7;dsimp only at h6 h7;omega
theorem scale_out {b:dO} {p:Nat} (hp:p<b.dz.length) {n:Int} (h:n<lowAt (p8 b) p∨highAt (p8 b) p<n):qR (scB b ⟨p,n,n⟩)=false:=by
 unfold qR;rw [web_scale b (-1) hp n];exact out_holds (webL_pile b (-1) hp) h
theorem scalesF_snoc {np:Nat} {x:jD} (hx:kH x.pile 0 ((np:Int) - 1)=true∧eT x.lo x.hi 0 1000000=true):∀{l:List jD},ku np l=0->ku np (l++ [x])=0
 | [],_=>by show ku np [x]=0;unfold ku;rw [if_neg (by rw [hx.1];simp),if_neg (by rw [hx.2];simp)];rfl
 |s::r,h=>by
  rw [List.cons_append];unfold ku at h ⊢
  by_cases h1:kH s.pile 0 ((np:Int) - 1)=false
  ·rw [if_pos h1] at h;cases h
  rw [if_neg h1] at h ⊢
  by_cases h2:eT s.lo s.hi 0 1000000=false
  ·rw [if_pos h2] at h;cases h
  rw [if_neg h2] at h ⊢;exact scalesF_snoc hx h
theorem checkF_snoc {b:dO} (h:fG b=0) {x:jD} (hl:b.dA.length<10) (hx:kH x.pile 0 ((b.dz.length:Int) - 1)=true∧eT x.lo x.hi 0 1000000=true):fG (scB b x)=0:=by
 obtain ⟨h1,h2,h3,h4,h5⟩:=EP h;unfold fG;rw [if_neg (by show ¬dP b.dJ 4≠0;rw [h1];simp),if_neg (by show ¬dP b.dz 12≠0;rw [h2];simp),if_neg (by show ¬fB b≠0;rw [h3];simp)];rw [if_neg (by show ¬10<(b.dA++ [x]).length;simp;omega)];exact scalesF_snoc hx h5
end Go.Proofs
end
section
namespace Go.Proofs
open Go Go.RowKit Go.Maps
variable [Lo.St]
def sclA (x:jD):Value:=.agg #[.int .i64 x.pile,.int .i64 x.lo,.int .i64 x.hi]
def cells3 (l:List jD):List Value:=l.flatMap λx=>[.int .i64 x.pile,.int .i64 x.lo,.int .i64 x.hi]
theorem Rd.more {w:World} {B B' size n:Nat} {A:Option Addr} {f:Nat->Nat->Value} (h:Rd w B size A n f) (hB:B<=B'):Rd w B' size A n f:= λhn=>by
 obtain ⟨b,off,e,h1,h2⟩:=h hn;exact ⟨b,off,e,by omega,h2⟩
theorem fC.more {w:World} {B B':Nat} {b:dO} {v:gJ} (h:fC w B b v) (hB:B<=B'):fC w B' b v:=
 ⟨h.dJ.more hB,h.dz.more hB,h.steps.more hB, λi s e=>(h.ins i s e).more hB, λi s e=>(h.outs i s e).more hB,h.dA.more hB,h.lh,h.lp,h.ls,h.lc⟩
theorem cells3_len (l:List jD):(cells3 l).length=l.length*3:=by
 induction l with
 |nil=>rfl
 |cons x l ih=>unfold cells3 at ih ⊢;simp only [List.flatMap_cons,List.length_append,ih];simp;omega
theorem cells3_get (l:List jD) {i j:Nat} (hi:i<l.length) (hj:j<3):(cells3 l)[i*3+j]?=some (vD l i j):=by
 induction l generalizing i with
 |nil=>exact absurd hi (Nat.not_lt_zero _)
 |cons x l ih=>
  unfold cells3;simp only [List.flatMap_cons];rcases i with _|i
  ·obtain rfl|rfl|rfl:j=0∨j=1∨j=2:=by omega
   all_goals rfl
  ·rw [List.getElem?_append_right (by simp;omega),show (i+1)*3+j - [Value.int .i64 x.pile,.int .i64 x.lo,.int .i64 x.hi].length=i*3+j from by simp;omega];exact ih (by simpa using hi)
theorem cells3_one {l:List jD} {u:Value} (h:u∈cells3 l):u.oneCell'=true:=by
 obtain ⟨x,_,h⟩:=List.mem_flatMap.1 h;simp only [List.mem_cons,List.not_mem_nil,or_false] at h;rcases h with rfl|rfl|rfl<;>rfl
theorem cells3_app (l r:List jD):cells3 l++cells3 r=cells3 (l++r):=by unfold cells3;rw [List.flatMap_append]
theorem set4 {Z:World} {p:Nat} {x0 x1 x2 x3 y0 y1 y2 y3:Value} {t:TypeId} (h:Z.heap[p]?=some (.cells #[x0,x1,x2,x3] t)):((((Z.setCell ⟨p,0,none⟩ y0).setCell ⟨p,1,none⟩ y1).setCell ⟨p,2,none⟩ y2).setCell ⟨p,3,none⟩ y3).heap[p]?=some (.cells #[y0,y1,y2,y3] t):=by
 rw [heap_setCell_same _ p 3 _ t _ (heap_setCell_same _ p 2 _ t _ (heap_setCell_same _ p 1 _ t _ (heap_setCell_same Z p 0 _ t _ h)))];rfl
theorem region_keyR {P:Program} {c:Code} {Q:Exit->Act->World->Prop} {a:Act} {w:World} (R:Act->World->Prop) (h1:∀K:Act->World->Prop,(∀a w,R a w->K a w)->Code.wp P c (AO K) a w) (h2:∀a w,R a w->Q .normal a w):Code.wp P c Q a w:=Code.wp_mono AO.imp (h1 _ h2)
theorem Lo.scaled_any {w:World} {B:Nat} {b:dO} {v:gJ} {x:Value} (hx:x=dY b v) (hb:fC w B b v) (hB:B<=w.heap.size) (hg:b.small) (s:jD):
 Calls Lo.prog 29 #[x,sclA s] w λe w'=>∃g q,e= .returned (.tuple #[dY (scB b s) { v with ac:=some ⟨g,0,none⟩,cc:=q },.bool (decide (b.dA.length+1<=10))])∧w.heap.size<=g∧(∀X:World,(∀k:Nat,k<B∨k=g->X.heap[k]?=w'.heap[k]?)->w'.heap.size<=X.heap.size->fC X X.heap.size (scB b s) { v with ac:=some ⟨g,0,none⟩,cc:=q })∧Below w.heap.size w w':=by
 obtain ⟨U,U2,U3,U4,U5,U6⟩:=Lo.facts;subst hx;show Calls Lo.prog 29 #[Value.agg (lN b v),sclA s] w _;unfold lN sclA;go_enter Lo.get Tryz.func29,Tryz.ntmps29;go_wp2;obtain ⟨Y,hY⟩:∃Y,((((w.alloc (.cells #[.slice v.ah b.dJ.length v.ch,.slice v.ap b.dz.length v.cp,.slice v.iT b.steps.length v.cs,.slice v.ac b.dA.length v.cc] 26)).alloc (.cells #[.int .i64 s.pile,.int .i64 s.lo,.int .i64 s.hi] 59)).alloc (.cells #[.slice none 0 0,.slice none 0 0,.slice none 0 0,.slice none 0 0] 26)).alloc (.cells #[.slice v.ah b.dJ.length v.ch,.slice v.ap b.dz.length v.cp,.slice v.iT b.steps.length v.cs,.slice v.ac b.dA.length v.cc] 26))=Y:=⟨_,rfl⟩;have bW:Below w.heap.size w Y:=hY ▸ ((((Below.refl _ _).alloc (Nat.le_refl _) _).alloc (by simp) _).alloc (by simp;omega) _).alloc (by simp;omega) _;have sY:Y.heap.size=w.heap.size+4:=by rw [<-hY];simp
 have g0:Y.heap[w.heap.size]?=some (.cells #[.slice v.ah b.dJ.length v.ch,.slice v.ap b.dz.length v.cp,.slice v.iT b.steps.length v.cs,.slice v.ac b.dA.length v.cc] 26):=by
  rw [<-hY,Below.heap_alloc _ _ _ (by simp;omega),Below.heap_alloc _ _ _ (by simp;omega),Below.heap_alloc _ _ _ (by simp)];exact World.alloc_heap_new _ _
 have g1:Y.heap[w.heap.size+1]?=some (.cells #[.int .i64 s.pile,.int .i64 s.lo,.int .i64 s.hi] 59):=by
  rw [<-hY,Below.heap_alloc _ _ _ (by simp),Below.heap_alloc _ _ _ (by simp)];have :=World.alloc_heap_new (w.alloc (.cells #[.slice v.ah b.dJ.length v.ch,.slice v.ap b.dz.length v.cp,.slice v.iT b.steps.length v.cs,.slice v.ac b.dA.length v.cc] 26)) (.cells #[.int .i64 s.pile,.int .i64 s.lo,.int .i64 s.hi] 59)
  rwa [World.size_alloc] at this
 have g3:Y.heap[w.heap.size+3]?=some (.cells #[.slice v.ah b.dJ.length v.ch,.slice v.ap b.dz.length v.cp,.slice v.iT b.steps.length v.cs,.slice v.ac b.dA.length v.cc] 26):=by
  rw [<-hY];have :=World.alloc_heap_new ((((w.alloc (.cells #[.slice v.ah b.dJ.length v.ch,.slice v.ap b.dz.length v.cp,.slice v.iT b.steps.length v.cs,.slice v.ac b.dA.length v.cc] 26)).alloc (.cells #[.int .i64 s.pile,.int .i64 s.lo,.int .i64 s.hi] 59)).alloc (.cells #[.slice none 0 0,.slice none 0 0,.slice none 0 0,.slice none 0 0] 26))) (.cells #[.slice v.ah b.dJ.length v.ch,.slice v.ap b.dz.length v.cp,.slice v.iT b.steps.length v.cs,.slice v.ac b.dA.length v.cc] 26)
  rwa [World.size_alloc,World.size_alloc,World.size_alloc] at this
 have g2:Y.heap[w.heap.size+2]?=some (.cells #[.slice none 0 0,.slice none 0 0,.slice none 0 0,.slice none 0 0] 26):=by
  rw [<-hY,Below.heap_alloc _ _ _ (by simp)];have :=World.alloc_heap_new ((w.alloc (.cells #[.slice v.ah b.dJ.length v.ch,.slice v.ap b.dz.length v.cp,.slice v.iT b.steps.length v.cs,.slice v.ac b.dA.length v.cc] 26)).alloc (.cells #[.int .i64 s.pile,.int .i64 s.lo,.int .i64 s.hi] 59)) (.cells #[.slice none 0 0,.slice none 0 0,.slice none 0 0,.slice none 0 0] 26)
  rwa [World.size_alloc,World.size_alloc] at this
 rw [hY];clear hY;obtain ⟨i0,hi,hz0,hz1,hz2⟩:=info_parts Lo.YS;have hsc:=hg.dA
 have hown0:∀X:World,Y.heap.size<=X.heap.size->(X.alloc (.cells #[] 59)).ownsRow Y.heap.size 59 3 (.slice (some ⟨X.heap.size,0,none⟩) 0 0) 0 []:= λX hX=>by
  refine ⟨rfl,.inr ⟨X.heap.size,0,#[],rfl,hX,World.alloc_heap_new _ _,Nat.le_refl _,?_,?_,?_⟩⟩
  all_goals simp
 have hn1:∀X:World,Below w.heap.size w X->∀ad,v.ac=some ad->∀j u,(cells3 b.dA)[j]?=some u->X.cell? (ad.add j)=some u:= λX hX ad e j u hu=>by
  have hl:=(List.getElem?_eq_some_iff.1 hu).1;rw [cells3_len] at hl;obtain ⟨bb,off,e',hbb,hc⟩:=hb.dA (by omega);rw [e] at e';cases e';have h1:=hc (j / 3) (j%3) (by omega) (Nat.mod_lt _ (by decide));have h2:=cells3_get b.dA (i:=j / 3) (j:=j%3) (by omega) (Nat.mod_lt _ (by decide));rw [show j / 3*3+j%3=j by omega] at h1 h2;rw [h2] at hu;rw [<-hu, <-h1,show (⟨bb,off,none⟩:Addr).add j=⟨bb,off+j,none⟩ from by unfold Addr.add;split<;>simp_all];exact dH hX bb _ (by omega)
 have hn0:v.ac=none->b.dA.length=0:= λe=>by
  by_cases h:0<b.dA.length
  ·obtain ⟨bb,off,e',_⟩:=hb.dA h;rw [e] at e';cases e'
  ·omega
 have HB:=Lib.hid (And.intro hb (And.intro bW (And.intro g0 (And.intro g1 (And.intro g3 (And.intro hown0 (And.intro hn1 (And.intro hn0 g2))))))));have c0:=cell_of g0 3;obtain ⟨d0,d1,d2⟩:Y.cell? ⟨w.heap.size+1,0,none⟩=some (.int .i64 s.pile)∧Y.cell? ⟨w.heap.size+1,1,none⟩=some (.int .i64 s.lo)∧Y.cell? ⟨w.heap.size+1,2,none⟩=some (.int .i64 s.hi):=⟨cell_of g1 0,cell_of g1 1,cell_of g1 2⟩;have c3:=cell_of g3 3;have f3:Y.frozen? ⟨w.heap.size+3,3,none⟩=false:=by unfold World.frozen?;simp only [g3];rfl
 obtain ⟨n,hn⟩:∃n,b.dA.length=n:=⟨_,rfl⟩;rw [hn];rw [hn] at c0 c3 hsc;have HN:=Lib.hid hn;have ho1:(Y.alloc (.cells #[] 59)).drew.ownsRow Y.heap.size 59 3 (.slice (some ⟨w.heap.size+4,0,none⟩) 0 0) 0 []:=by rw [<-sY];exact (hown0 Y (Nat.le_refl _)).drew
 have ho2:((Y.alloc (.cells #[] 59)).alloc (.cells #[.int .i64 s.pile,.int .i64 s.lo,.int .i64 s.hi] 59)).drew.ownsRow Y.heap.size 59 3 (.slice (some ⟨w.heap.size+4,0,none⟩) 0 0) 0 []:=by rw [<-sY];exact ((hown0 Y (Nat.le_refl _)).alloc _).drew
 have ho3:((Y.alloc (.cells #[.int .i64 s.pile,.int .i64 s.lo,.int .i64 s.hi] 59)).alloc (.cells #[] 59)).drew.ownsRow Y.heap.size 59 3 (.slice (some ⟨w.heap.size+4+1,0,none⟩) 0 0) 0 []:=by
  have :=hown0 (Y.alloc (.cells #[.int .i64 s.pile,.int .i64 s.lo,.int .i64 s.hi] 59)) (by simp);rw [World.size_alloc,sY] at this;rw [sY];exact this.drew
 have ho4:((Y.alloc (.cells #[] 59)).alloc (.cells #[.int .i64 s.pile,.int .i64 s.lo,.int .i64 s.hi] 59)).heap[w.heap.size+4+1]?=some (.cells #[.int .i64 s.pile,.int .i64 s.lo,.int .i64 s.hi] 59):=by
  have :=World.alloc_heap_new (Y.alloc (.cells #[] 59)) (.cells #[.int .i64 s.pile,.int .i64 s.lo,.int .i64 s.hi] 59)
  rwa [World.size_alloc,sY] at this
 have PV:((Y.alloc (.cells #[.int .i64 s.pile,.int .i64 s.lo,.int .i64 s.hi] 59)).alloc (.cells #[] 59)).heap[w.heap.size+4]?=some (.cells #[.int .i64 s.pile,.int .i64 s.lo,.int .i64 s.hi] 59):=by
  rw [Below.heap_alloc _ _ _ (by simp;omega), <-sY];exact World.alloc_heap_new _ _
 have HO:=Lib.hid (And.intro ho1 (And.intro ho2 (And.intro ho3 (And.intro ho4 PV))));clear hb bW g0 g1 g2 g3 hown0 hn1 hn0 hn ho1 ho2 ho3 ho4 PV
 apply region_keyR (λa' w'=>∃t8 t11 t13 A q,a'=⟨#[.agg #[.slice v.ah b.dJ.length v.ch,.slice v.ap b.dz.length v.cp,.slice v.iT b.steps.length v.cs,.slice v.ac n v.cc],.agg #[.int .i64 s.pile,.int .i64 s.lo,.int .i64 s.hi],.pointer (some ⟨w.heap.size,0,none⟩),.pointer (some ⟨w.heap.size+1,0,none⟩),.pointer (some ⟨w.heap.size+1+1,0,none⟩),.bool false,.pointer (some ⟨w.heap.size+1+1+1,0,none⟩),.agg #[.slice v.ah b.dJ.length v.ch,.slice v.ap b.dz.length v.cp,.slice v.iT b.steps.length v.cs,.slice v.ac n v.cc],t8,.pointer (some ⟨w.heap.size,3,none⟩),.slice v.ac n v.cc,t11,.agg #[.int .i64 s.pile,.int .i64 s.lo,.int .i64 s.hi],t13,.slice A (n+1) q,.pointer (some ⟨w.heap.size+1+1+1,3,none⟩),undef,undef,undef,undef,undef],[]⟩∧
  ∃w2:World,w'=w2.setCell ⟨w.heap.size+1+1+1,3,none⟩ (.slice A (n+1) q)∧w2.ownsRow Y.heap.size 59 3 (.slice A (n+1) q) (n+1) (cells3 (b.dA++ [s]))∧Below Y.heap.size Y w2)
 case h1=>
  intro Q' hK
  go_region_law (first
   |(refine step_append_opt rfl (.tmp 8) (.tmp 10) 24 rfl Y.heap.size 59 i0 (.agg #[.int .i64 0,.int .i64 0,.int .i64 0]) 3 24 Lo.Xi hi hz0 hz1 hz2 rfl (by decide) (.slice (some ⟨_,0,none⟩) 0 0) 0 [] rfl ?ho v.ac n v.cc (cells3 b.dA) rfl ?hl ?hn ?h0 (λu hu=>cells3_one hu) (by unfold maxLen;omega) (by omega) ?hb ?_
     case ho=>first
      |exact HO.out.1
      |exact HO.out.2.1
      |exact HO.out.2.2.1
     case hl=>rw [cells3_len,HN.out]
     case hn=>exact HB.out.2.2.2.2.2.2.1 _ (HB.out.2.1.trans (Below.mono (by first |exact ((Below.refl _ _).alloc (Nat.le_refl _) _).drew|exact (((Below.refl _ _).alloc (Nat.le_refl _) _).alloc (by simp) _).drew) (by omega)))
     case h0=>intro e;rw [<-HN.out];exact HB.out.2.2.2.2.2.2.2.1 e
     case hb=>first |(simp;done)|(simp;omega)
     intro v1 w1 a1 a2;have hb1:Below Y.heap.size Y w1:=Below.grown ?hb0 a2 (by first |(simp;done)|(simp;omega)) (λj hj=>by simp [Value.ownBlock] at hj;omega)
     case hb0=>first
      |exact ((Below.refl _ _).alloc (Nat.le_refl _) _).drew
      |exact (((Below.refl _ _).alloc (Nat.le_refl _) _).alloc (by simp) _).drew
     have e0:=(dH hb1 (w.heap.size+1) 0 (by omega)).trans d0;have e1:=(dH hb1 (w.heap.size+1) 1 (by omega)).trans d1;have e2:=(dH hb1 (w.heap.size+1) 2 (by omega)).trans d2;have H1:=Lib.hid (And.intro hb1 (And.intro a1 a2));have s1:=hb1.size;clear hb1 a1 a2)
   |(refine step_append_opt rfl (.tmp 11) (.tmp 13) 24 rfl Y.heap.size 59 i0 (.agg #[.int .i64 0,.int .i64 0,.int .i64 0]) 3 24 Lo.Xi hi hz0 hz1 hz2 rfl (by decide) _ (0+n) ([]++cells3 b.dA) rfl ?ho (some ⟨_,0,none⟩) 1 1 (cells3 [s]) rfl rfl ?hn (λe=>by cases e) (λu hu=>cells3_one hu) (by unfold maxLen;omega) (by omega) ?hb ?_
     case ho=>first
      |exact H1.out.2.1.alloc _
      |exact H1.out.2.1
     case hn=>
      intro ad e;cases e;refine World.news_of_block (t:=59) (fr:=(0,0)) (cs:= #[.int .i64 s.pile,.int .i64 s.lo,.int .i64 s.hi]) ?_
      first
       |exact World.alloc_heap_new _ _
       |exact (H1.out.2.2.block _ (by simp;omega) (by simp [Value.ownBlock])).trans HO.out.2.2.2.1
       |exact (H1.out.2.2.block _ (by simp;omega) (by simp [Value.ownBlock])).trans HO.out.2.2.2.2
     case hb=>first
      |exact s1
      |(simp;omega)
     intro v2 w2 a1 a2;obtain ⟨g,q,rfl, -, -⟩:=ownsRow.shape a1 (by omega);have hb2:Below Y.heap.size Y w2:=Below.grown ?hb0 a2 ?hsz (λj hj=>(H1.out.2.1.lt j hj).1)
     case hb0=>first
      |exact H1.out.1
      |exact (H1.out.1.alloc s1 _)
     case hsz=>first
      |exact s1
      |(simp;omega)
     have e3:=(dH hb2 (w.heap.size+1+1+1) 3 (by omega)).trans c3
     have fz:w2.frozen? ⟨w.heap.size+1+1+1,3,none⟩=false:=by
      have :=(hb2.block (w.heap.size+1+1+1) (by omega)).trans HB.out.2.2.2.2.1;unfold World.frozen?;simp only [this];rfl
     have H2:=Lib.hid (And.intro hb2 a1);clear hb2 a1 a2))
  all_goals exact hK _ _ ⟨_,_,_,_,_,rfl,_,rfl,(by have h:=H2.out.2;rw [List.nil_append,cells3_app,Nat.zero_add] at h;exact h),H2.out.1⟩
 case h2=>
  rintro a' w' ⟨t8,t11,t13,A,q,rfl,w2,rfl,hown,hb2⟩;have hl:(b.dA++ [s]).length=n+1:=by rw [List.length_append,HN.out];rfl
  obtain ⟨A',q',e,hq,hr⟩:=ownsRow.rd (B:=w2.heap.size) (f:=vD (b.dA++ [s])) hown (λi j hi hj=>cells3_get _ (by omega) hj);cases e;have hr:=hr (n+1) (Nat.le_refl _) (Nat.le_refl _);obtain ⟨Z,hZ⟩:∃Z,w2.setCell ⟨w.heap.size+1+1+1,3,none⟩ (.slice A (n+1) q)=Z:=⟨_,rfl⟩;have D7:∀k:Nat,k≠w.heap.size+3->Z.heap[k]?=w2.heap[k]?:= λk hk=>by rw [<-hZ];exact Below.heap_setCell w2 ⟨w.heap.size+3,3,none⟩ _ k hk
  have μt:Z.heap.size=w2.heap.size:=by rw [<-hZ];simp [World.setCell]
  have z3:Z.heap[w.heap.size+3]?=some (.cells #[.slice v.ah b.dJ.length v.ch,.slice v.ap b.dz.length v.cp,.slice v.iT b.steps.length v.cs,.slice A (n+1) q] 26):=by
   rw [<-hZ,heap_setCell_same w2 (w.heap.size+3) 3 _ 26 _ ((hb2.block _ (by omega)).trans HB.out.2.2.2.2.1)];rfl
  have z2:Z.heap[w.heap.size+2]?=some (.cells #[.slice none 0 0,.slice none 0 0,.slice none 0 0,.slice none 0 0] 26):=(D7 _ (by omega)).trans ((hb2.block _ (by omega)).trans HB.out.2.2.2.2.2.2.2.2)
  rw [hZ];obtain ⟨g,q',e,hg1,hg2⟩:=ownsRow.shape hown (by omega);cases e
  have hbk:∀X:World,(∀k:Nat,k<B∨k=g->X.heap[k]?=w2.heap[k]?)->w2.heap.size<=X.heap.size->fC X X.heap.size (scB b s) { v with ac:=some ⟨g,0,none⟩,cc:=q }:= λX hX hXs=>by
   have h:=(HB.out.1.keep (w':=X) λd o h=>(World.cell?_of_block (a:=⟨d,o,none⟩) (hX d (.inl h))).trans ((dH hb2 d o (by omega)).trans (dH HB.out.2.1 d o (by omega)))).more (B':=X.heap.size) (by have :=hb2.size;omega);refine ⟨h.dJ,h.dz,h.steps,h.ins,h.outs, λhn=>?_,h.lh,h.lp,h.ls,by show (b.dA++ [s]).length<=q;omega⟩;obtain ⟨bb,off,e,h1,h2⟩:=hr (by omega);cases e;exact ⟨_,_,rfl,by omega, λi j hi hj=>(World.cell?_of_block (a:=⟨g,0+(i*3+j),none⟩) (hX g (.inr rfl))).trans (h2 i j (by rw [<-hl];exact hi) hj)⟩
  have bZ:Below w.heap.size w Z:=by
   rw [<-hZ];exact (HB.out.2.1.trans (hb2.mono (by omega))).setCell (p:=⟨w.heap.size+1+1+1,3,none⟩) (by show w.heap.size<=w.heap.size+1+1+1;omega) _
  obtain ⟨e0,e1,e2,e3⟩:Z.cell? ⟨w.heap.size+1+1+1,0,none⟩=some (.slice v.ah b.dJ.length v.ch)∧Z.cell? ⟨w.heap.size+1+1+1,1,none⟩=some (.slice v.ap b.dz.length v.cp)∧Z.cell? ⟨w.heap.size+1+1+1,2,none⟩=some (.slice v.iT b.steps.length v.cs)∧Z.cell? ⟨w.heap.size+1+1+1,3,none⟩=some (.slice (some ⟨g,0,none⟩) (n+1) q):=⟨cell_of z3 0,cell_of z3 1,cell_of z3 2,cell_of z3 3⟩;obtain ⟨x0,x1,x2,x3⟩:Z.cell? ⟨w.heap.size+1+1,0,none⟩=some (.slice none 0 0)∧Z.cell? ⟨w.heap.size+1+1,1,none⟩=some (.slice none 0 0)∧Z.cell? ⟨w.heap.size+1+1,2,none⟩=some (.slice none 0 0)∧Z.cell? ⟨w.heap.size+1+1,3,none⟩=some (.slice none 0 0):=⟨cell_of z2 0,cell_of z2 1,cell_of z2 2,cell_of z2 3⟩;have fz:∀j,Z.frozen? ⟨w.heap.size+1+1,j,none⟩=false:= λj=>by unfold World.frozen?;simp only [z2];simp
  have fz0:=fz 0;have fz1:=fz 1;have fz2:=fz 2;have fz3:=fz 3;have HZ:=Lib.hid (And.intro hbk (And.intro bZ (And.intro hl (And.intro z2 (And.intro D7 μt)))));clear hbk bZ D7 hl hr hown hZ z3 z2 fz;go_wp2
  go_region
  obtain ⟨V,hV⟩:∃V,(((Z.setCell ⟨w.heap.size+1+1,0,none⟩ (.slice v.ah b.dJ.length v.ch)).setCell ⟨w.heap.size+1+1,1,none⟩ (.slice v.ap b.dz.length v.cp)).setCell ⟨w.heap.size+1+1,2,none⟩ (.slice v.iT b.steps.length v.cs)).setCell ⟨w.heap.size+1+1,3,none⟩ (.slice (some ⟨g,0,none⟩) (n+1) q)=V:=⟨_,rfl⟩;rw [hV];have v2:V.heap[w.heap.size+1+1]?=_:=hV ▸ set4 HZ.out.2.2.2.1
  have le2:w.heap.size<=w.heap.size+1+1:=by omega
  have bV:Below w.heap.size w V.drew:=by
   rw [<-hV];exact ((((HZ.out.2.1.setCell (p:=⟨w.heap.size+1+1,0,none⟩) le2 _).setCell (p:=⟨w.heap.size+1+1,1,none⟩) le2 _).setCell (p:=⟨w.heap.size+1+1,2,none⟩) le2 _).setCell (p:=⟨w.heap.size+1+1,3,none⟩) le2 _).drew
  have κ7:∀k:Nat,k≠w.heap.size+2->V.heap[k]?=Z.heap[k]?:= λk hk=>by
   rw [<-hV,Below.heap_setCell _ ⟨w.heap.size+1+1,3,none⟩ _ k hk,Below.heap_setCell _ ⟨w.heap.size+1+1,2,none⟩ _ k hk,Below.heap_setCell _ ⟨w.heap.size+1+1,1,none⟩ _ k hk,Below.heap_setCell _ ⟨w.heap.size+1+1,0,none⟩ _ k hk]
  have μX:V.heap.size=Z.heap.size:=by rw [<-hV];simp [World.setCell]
  have πb:∀X:World,(∀k:Nat,k<B∨k=g->X.heap[k]?=V.drew.heap[k]?)->V.drew.heap.size<=X.heap.size->fC X X.heap.size (scB b s) { v with ac:=some ⟨g,0,none⟩,cc:=q }:= λX hX hs=>HZ.out.1 X (λk hk=>(hX k hk).trans ((κ7 k (by omega)).trans (HZ.out.2.2.2.2.1 k (by omega)))) (Nat.le_trans (by show _<=V.heap.size;rw [μX,HZ.out.2.2.2.2.2];exact Nat.le_refl _) hs)
  obtain ⟨y0,y1,y2,y3⟩:=zY (X:=V.drew) v2;have HV:=Lib.hid (And.intro bV πb);clear e0 e1 e2 e3 x0 x1 x2 x3 fz0 fz1 fz2 fz3 hV v2 bV κ7 μX πb;go_wp2;have hf:Tryz.f29.results= #[ResultVar.cell 4 26,ResultVar.tmp 5]:=by unfold Tryz.f29;rfl
  refine bodyPost_ret (v:=.tuple #[.agg #[.slice v.ah b.dJ.length v.ch,.slice v.ap b.dz.length v.cp,.slice v.iT b.steps.length v.cs,.slice (some ⟨g,0,none⟩) (n+1) q],.bool (decide ((n:Int)+1<=10))]) ?_ rfl ⟨g,q,?_,by omega,?_,?_⟩
  ·simp [results,hf,go_sem,U,U2,U3,U4,U5,U6,y0,y1,y2,y3]
  ·have e1:(scB b s).dA.length=n+1:=HZ.out.2.2.1;unfold dY;rw [e1];have e2:decide ((n:Int)+1<=10)=decide (n+1<=10):=by simp;omega
   rw [e2,HN.out];rfl
  ·exact HV.out.2
  ·exact HV.out.1
end Go.Proofs
end
