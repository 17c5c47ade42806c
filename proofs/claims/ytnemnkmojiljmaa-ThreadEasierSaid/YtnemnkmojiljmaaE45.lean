/- Part 45. -/
import Derived.Test.YtnemnkmojiljmaaE12
import Derived.Test.YtnemnkmojiljmaaE13
import Derived.Test.YtnemnkmojiljmaaE19
set_option maxRecDepth 100000
set_option maxHeartbeats 8000000
set_option linter.all false
section
namespace Go.Proofs
open Go Go.RowKit Go.Maps
variable [Lo.St]
theorem Lo.zU (n l h:Int) (w:World):Calls Lo.prog 24 #[.int .i64 n,.int .i64 l,.int .i64 h] w λe w'=>e= .returned (.bool (mD n l h))∧w=w':=by
 obtain ⟨U,U2,U3,U4,U5,U6⟩:=@Lo.facts inferInstance
 by_cases h1:l<=n
 ·by_cases h2:n<=h
  ·go_enter Lo.func24,Try.ntmps24;go_wp2;go_ret;exact ⟨by simp [mD,h1,h2],rfl⟩
  ·go_enter Lo.func24,Try.ntmps24;go_wp2;go_ret;exact ⟨by simp [mD,h1,h2],rfl⟩
 ·go_enter Lo.func24,Try.ntmps24;go_wp2;go_ret;exact ⟨by simp [mD,h1];intro h;omega,rfl⟩
theorem Lo.DC (a b l h:Int) (w:World):Calls Lo.prog 25 #[.agg #[.int .i64 a,.int .i64 b],.int .i64 l,.int .i64 h] w λe w'=>e= .returned (.bool (dQ a b l h))∧Below w.heap.size w w':=by
 obtain ⟨U,U2,U3,U4,U5,U6⟩:=@Lo.facts inferInstance
 by_cases h1:l<=a
 ·by_cases h2:a<=b
  ·by_cases h3:b<=h
   ·go_enter Lo.func25,Try.ntmps25;go_wp2;go_ret;exact ⟨by simp [dQ,h1,h2,h3],(Below.refl _ _).alloc (aj _) _⟩
   ·go_enter Lo.func25,Try.ntmps25;go_wp2;go_ret;exact ⟨by simp [dQ,h1,h2,h3],(Below.refl _ _).alloc (aj _) _⟩
  ·go_enter Lo.func25,Try.ntmps25;go_wp2;go_ret;exact ⟨by simp [dQ,h1,h2];intro h;omega,(Below.refl _ _).alloc (aj _) _⟩
 ·go_enter Lo.func25,Try.ntmps25;go_wp2;go_ret;exact ⟨by simp [dQ,h1];intro h;omega,(Below.refl _ _).alloc (aj _) _⟩
theorem KS {α:Type} (f:α->Bool) (l:List α) (k:Nat) (h:k<l.length):(l.drop k).any f=(f l[k]||(l.drop (k+1)).any f):=by
 rw [aG h];rfl
theorem Lo.Je {w:World} {B:Nat} {lots:List (Int×Int)} {cs:List (Int×Int×Int)} {A1 A2:Option Addr} {c1 c2:Nat} (h1:K8 w B A1 lots) (h2:IJ w B A2 cs) (hl1:lots.length<=64) (hl2:cs.length<=64) (hB:B<=w.heap.size) (limit:Int):
 Calls Lo.prog 9 #[.slice A1 lots.length c1,.slice A2 cs.length c2,.int .i64 limit] w λe w'=>e= .returned (.int .i64 (cK lots cs limit))∧Below w.heap.size w w':=by
 obtain ⟨U,U2,U3,U4,U5,U6⟩:=@Lo.facts inferInstance;have C:=(@Lo.call24 inferInstance);have C2:=(@Lo.call25 inferInstance)
 by_cases q1:6<lots.length
 ·have d1:(6:Int)<(lots.length:Int):=by omega
  have H:=Lib.hid q1;clear q1;go_enter Lo.func9,Try.ntmps9;go_wp2;go_ret;exact ⟨by unfold cK;rw [if_pos H.out];rfl,Below.refl _ _⟩
 have d1:¬(6:Int)<(lots.length:Int):=by omega
 have H1:=Lib.hid q1;clear q1;cases q2:mD cs.length 1 4 with
 |false=>
  have H:=Lib.hid q2;clear q2;go_enter Lo.func9,Try.ntmps9
  go_wp2_with (go_at_call 24;refine (Lo.zU _ _ _ _).mono ?_;rintro e w1 ⟨rfl,rfl⟩;rw [H.out])
  go_ret;exact ⟨by unfold cK;rw [if_neg H1.out,if_pos H.out];rfl,Below.refl _ _⟩
 |true=>
  have H2:=Lib.hid q2;clear q2;obtain ⟨F,hF⟩:∃F,cK lots cs limit=F:=⟨_,rfl⟩;have hF2:=hF;unfold cK at hF2;rw [if_neg H1.out,if_neg (by rw [H2.out];simp)] at hF2;rw [hF];have HF:=Lib.hid hF2;clear hF2 hF;have HR:=Lib.hid (au h1 h2);clear h1 h2;go_enter Lo.func9,Try.ntmps9
  go_wp2_with (go_at_call 24;refine (Lo.zU _ _ _ _).mono ?_;rintro e w1 ⟨rfl,rfl⟩;rw [H2.out])
  go_loopw [7] (λi wr=>∃k:Nat,k<=lots.length∧i= .int .i64 (k:Int)∧(lots.drop k).any iT=lots.any iT∧Below w.heap.size w wr) (λi _=>lots.length - (intOf i).toNat)
  case atStart=>exact ⟨0,aL _,rfl,rfl,Below.refl _ _⟩
  case round=>
   obtain ⟨k,hk,rfl,hany,hb⟩:=hrel
   by_cases hlt:k<lots.length
   ·have hlt':(k:Int)<(lots.length:Int):=by omega
    obtain ⟨bb,off,rfl,hbb,hc⟩:=HR.out.1 (by omega);have r1:=(bV hb bb _ (by omega)).trans (II hc hlt).1;have r2:=(bV hb bb _ (by omega)).trans (II hc hlt).2;rw [KS iT lots k hlt] at hany;have hbad:iT lots[k]=!dQ lots[k].1 lots[k].2 0 1000000:=rfl;rw [hbad] at hany;generalize lots[k].1=x at r1 hany;generalize lots[k].2=y at r2 hany;cases hi:dQ x y 0 1000000 with
    |false=>
     rw [hi] at hany;have HI:=Lib.hid (au hi (au hany hb));clear hi hany hb hbad
     go_wp2_with (go_at_call 25;refine (Lo.DC _ _ _ _ _).mono ?_;rintro e w1 ⟨rfl,hb1⟩;rw [HI.out.1];have HB1:=Lib.hid hb1;clear hb1)
     go_ret;refine ⟨?_,HI.out.2.2.trans (HB1.out.mono HI.out.2.2.size)⟩;rw [<-HF.out,if_pos (HI.out.2.1.symm.trans (by simp))];rfl
    |true=>
     rw [hi] at hany;have HI:=Lib.hid (au hi (au hany hb));clear hi hany hb hbad
     go_wp2_with (go_at_call 25;refine (Lo.DC _ _ _ _ _).mono ?_;rintro e w1 ⟨rfl,hb1⟩;rw [HI.out.1];have HB1:=Lib.hid hb1;clear hb1)
     go_roundw
     case rel=>exact ⟨k+1,by omega,by go_num,by simpa using HI.out.2.1,HI.out.2.2.trans (HB1.out.mono HI.out.2.2.size)⟩
     case measure=>simp [intOf];omega
   ·obtain rfl:k=lots.length:=by omega
    rw [List.drop_length] at hany;have KT:lots.any iT=false:=hany.symm;have HB:=Lib.hid (au hb KT);clear hb hany KT;go_wp2
    go_loopw [8] (λi wq=>∃k:Nat,k<=cs.length∧i= .int .i64 (k:Int)∧(cs.drop k).any eF=cs.any eF∧Below w.heap.size w wq) (λi _=>cs.length - (intOf i).toNat)
    case atStart=>exact ⟨0,aL _,rfl,rfl,HB.out.1⟩
    case round=>
     obtain ⟨k,hk,rfl,hany,hb⟩:=hrel
     by_cases hlt:k<cs.length
     ·have hlt':(k:Int)<(cs.length:Int):=by omega
      obtain ⟨bb,off,rfl,hbb,hc⟩:=HR.out.2 (by omega);have r1:=(bV hb bb _ (by omega)).trans (vY hc hlt).1;have r2:=(bV hb bb _ (by omega)).trans (vY hc hlt).2.1;have r3:=(bV hb bb _ (by omega)).trans (vY hc hlt).2.2;rw [KS eF cs k hlt] at hany;have hbad:eF cs[k]=!(mD cs[k].1 1 1000000&&dQ cs[k].2.1 cs[k].2.2 0 1000):=rfl;rw [hbad] at hany;generalize cs[k].1=p at r1 hany;generalize cs[k].2.1=x at r2 hany;generalize cs[k].2.2=y at r3 hany;cases hi:mD p 1 1000000 with
      |false=>
       rw [hi] at hany;have HI:=Lib.hid (au hi (au hany hb));clear hi hany hb hbad
       go_wp2_with (go_at_call 24;refine (Lo.zU _ _ _ _).mono ?_;rintro e w1 ⟨rfl,rfl⟩;rw [HI.out.1])
       go_ret;refine ⟨?_,HI.out.2.2⟩;rw [<-HF.out,if_neg (by rw [HB.out.2];simp),if_pos (HI.out.2.1.symm.trans (by simp))];rfl
      |true=>
       cases hj:dQ x y 0 1000 with
       |false=>
        rw [hi,hj] at hany;have HI:=Lib.hid (au hi (au hany (au hb hj)));clear hi hany hb hbad hj
        go_wp2_with (first
         |(go_at_call 24;refine (Lo.zU _ _ _ _).mono ?_;rintro e w1 ⟨rfl,rfl⟩;rw [HI.out.1])
         |(go_at_call 25;refine (Lo.DC _ _ _ _ _).mono ?_;rintro e w1 ⟨rfl,hb1⟩;rw [HI.out.2.2.2];have HB1:=Lib.hid hb1;clear hb1))
        go_ret;refine ⟨?_,HI.out.2.2.1.trans (HB1.out.mono HI.out.2.2.1.size)⟩;rw [<-HF.out,if_neg (by rw [HB.out.2];simp),if_pos (HI.out.2.1.symm.trans (by simp))];rfl
       |true=>
        rw [hi,hj] at hany;have HI:=Lib.hid (au hi (au hany (au hb hj)));clear hi hany hb hbad hj
        go_wp2_with (first
         |(go_at_call 24;refine (Lo.zU _ _ _ _).mono ?_;rintro e w1 ⟨rfl,rfl⟩;rw [HI.out.1])
         |(go_at_call 25;refine (Lo.DC _ _ _ _ _).mono ?_;rintro e w1 ⟨rfl,hb1⟩;rw [HI.out.2.2.2];have HB1:=Lib.hid hb1;clear hb1))
        go_roundw
        case rel=>exact ⟨k+1,by omega,by go_num,by simpa using HI.out.2.1,HI.out.2.2.1.trans (HB1.out.mono HI.out.2.2.1.size)⟩
        case measure=>simp [intOf];omega
     ·obtain rfl:k=cs.length:=by omega
      rw [List.drop_length] at hany;have KT:cs.any eF=false:=hany.symm;have HC:=Lib.hid (au hb KT);clear hb hany KT;cases hq:mD limit 0 1000000 with
      |false=>
       have HQ:=Lib.hid hq;clear hq
       go_wp2_with (go_at_call 24;refine (Lo.zU _ _ _ _).mono ?_;rintro e w1 ⟨rfl,rfl⟩;rw [HQ.out])
       go_ret;refine ⟨?_,HC.out.1⟩;rw [<-HF.out,if_neg (by rw [HB.out.2];simp),if_neg (by rw [HC.out.2];simp),if_pos HQ.out];rfl
      |true=>
       have HQ:=Lib.hid hq;clear hq
       go_wp2_with (go_at_call 24;refine (Lo.zU _ _ _ _).mono ?_;rintro e w1 ⟨rfl,rfl⟩;rw [HQ.out])
       go_ret;refine ⟨?_,HC.out.1⟩;rw [<-HF.out,if_neg (by rw [HB.out.2];simp),if_neg (by rw [HC.out.2];simp),if_neg (by rw [HQ.out];simp)];rfl
end Go.Proofs
end
section
namespace Go.Proofs
open Go Go.RowKit Go.Maps
def Bt (b:Int) (i:Nat) (x:Int×Int×Int):Int×Int×Int:=(min 1000000 (x.1+b%((i:Int)+2)),max 0 (x.2.1 - b%7),max 0 (x.2.2 - b%7))
def fC (cs:List (Int×Int×Int)) (b:Int):Nat->List (Int×Int×Int)
 |0=>[]
 |k+1=>fC cs b k++ [Bt b k ((cs[k]?).getD (0,0,0))]
theorem eY (cs:List (Int×Int×Int)) (b:Int) (k:Nat):(fC cs b k).length=k:=by
 induction k with
 |zero=>rfl
 |succ k ih=>simp [fC,ih]
theorem Hw (cs:List (Int×Int×Int)) (b:Int) (k j:Nat) (h:j<k):(fC cs b k)[j]?=some (Bt b j ((cs[j]?).getD (0,0,0))):=by
 induction k with
 |zero=>omega
 |succ k ih=>
  unfold fC
  by_cases hj:j<k
  ·rw [List.getElem?_append_left (by rw [eY];exact hj)];exact ih hj
  ·obtain rfl:j=k:=by omega
   rw [List.getElem?_append_right (by rw [eY];exact aj _),eY];simp
def lU (l:List (Int×Int×Int)):List Value:=l.flatMap λx=>[.int .i64 x.1,.int .i64 x.2.1,.int .i64 x.2.2]
def iO (l:List (Int×Int)):List Value:=l.flatMap λx=>[.int .i64 x.1,.int .i64 x.2]
theorem Ni (l:List (Int×Int×Int)):(lU l).length=l.length*3:=by
 induction l with
 |nil=>rfl
 |cons x l ih=>simp only [lU,List.flatMap_cons] at *;simp [ih];omega
theorem wR (l:List (Int×Int)):(iO l).length=l.length*2:=by
 induction l with
 |nil=>rfl
 |cons x l ih=>simp only [iO,List.flatMap_cons] at *;simp [ih];omega
theorem Fz (l m:List (Int×Int×Int)):lU (l++m)=lU l++lU m:=by simp [lU]
theorem Nj (l m:List (Int×Int)):iO (l++m)=iO l++iO m:=by simp [iO]
theorem wS (l:List (Int×Int×Int)) (i j:Nat) (hi:i<l.length) (hj:j<3):(lU l)[i*3+j]?=some (cutAt l i j):=by
 induction l generalizing i with
 |nil=>simp at hi
 |cons x l ih=>
  cases i with
  |zero=>
   obtain rfl|rfl|rfl:j=0∨j=1∨j=2:=by omega
   all_goals rfl
  |succ i=>
   have :=ih i (by simpa using hi);rw [show (i+1)*3+j=(i*3+j)+3 by omega];show (lU l)[i*3+j]?=_
   rw [this];unfold cutAt;rfl
theorem wT (l:List (Int×Int)) (i j:Nat) (hi:i<l.length) (hj:j<2):(iO l)[i*2+j]?=some (xJ l i j):=by
 induction l generalizing i with
 |nil=>simp at hi
 |cons x l ih=>
  cases i with
  |zero=>
   obtain rfl|rfl:j=0∨j=1:=by omega
   all_goals rfl
  |succ i=>
   have :=ih i (by simpa using hi);rw [show (i+1)*2+j=(i*2+j)+2 by omega];show (iO l)[i*2+j]?=_
   rw [this];unfold xJ;rfl
theorem FB {l:List (Int×Int)} {u:Value} (h:u∈iO l):∃x,u= .int .i64 x:=by
 obtain ⟨y,_,h⟩:=List.mem_flatMap.1 h;simp only [aT,List.not_mem_nil,or_false] at h;rcases h with rfl|rfl<;>exact ⟨_,rfl⟩
theorem Da {w:World} {bb off:Nat} {l:List (Int×Int)} (hc:∀i j,i<l.length->j<2->w.cell? ⟨bb,off+(i*2+j),none⟩=some (xJ l i j)) (s n:Nat) (hs:s+n<=l.length):
 ∀j u,(iO ((l.drop s).take n))[j]?=some u->w.cell? ((⟨bb,off+s*2,none⟩:Addr).add j)=some u:= λj u hu=>by
 have hj:j<n*2:=by
  have :=(aJ.1 hu).1;rw [wR] at this;simp at this;omega
 have e:=Nat.div_add_mod j 2;have hm:j%2<2:=Nat.mod_lt _ (by decide);have hd:j / 2<n:=by omega
 have hu2:(iO ((l.drop s).take n))[(j / 2)*2+j%2]?=some u:=by rw [show (j / 2)*2+j%2=j by omega];exact hu
 rw [wT _ _ _ (by simp;omega) hm] at hu2
 have hadd:(⟨bb,off+s*2,none⟩:Addr).add j=⟨bb,off+((s+j / 2)*2+j%2),none⟩:=by
  unfold Addr.add;split<;>simp_all<;>omega
 rw [hadd,hc (s+j / 2) (j%2) (by omega) hm, <-aD hu2]
 have e2:((l.drop s).take n)[j / 2]?=l[s+j / 2]?:=by
  rw [List.getElem?_take,if_pos hd,List.getElem?_drop]
 unfold xJ;rw [e2]
variable [Lo.St]
theorem any_false {α:Type} {f:α->Bool} {l:List α} (h:∀x∈l,f x=false):l.any f=false:=by
 rw [List.any_eq_false];exact λx hx=>by rw [h x hx];simp
theorem Bu {α:Type} {f:α->Bool} {l:List α} (h:¬l.any f=true):∀x∈l,f x=false:= λx hx=>by
 cases hf:f x with
 |false=>rfl
 |true=>exact absurd (List.any_eq_true.2 ⟨x,hx,hf⟩) h
structure Yf (lots:List (Int×Int)) (cs:List (Int×Int×Int)) (limit:Int):Prop where
 nl:lots.length<=6
 nc:1<=cs.length∧cs.length<=4
 lot:∀x∈lots,iT x=false
 cut:∀x∈cs,eF x=false
 lim:0<=limit∧limit<=1000000
theorem UR {lots:List (Int×Int)} {cs:List (Int×Int×Int)} {limit:Int} (h:cK lots cs limit=0):Yf lots cs limit:=by
 unfold cK at h
 by_cases h1:6<lots.length
 ·rw [if_pos h1] at h;cases h
 rw [if_neg h1] at h
 by_cases h2:mD cs.length 1 4=false
 ·rw [if_pos h2] at h;cases h
 rw [if_neg h2] at h
 by_cases h3:lots.any iT=true
 ·rw [if_pos h3] at h;cases h
 rw [if_neg h3] at h
 by_cases h4:cs.any eF=true
 ·rw [if_pos h4] at h;cases h
 rw [if_neg h4] at h
 by_cases h5:mD limit 0 1000000=false
 ·rw [if_pos h5] at h;cases h
 have e4:1<=(cs.length:Int)∧(cs.length:Int)<=4:=by unfold mD at h2;simpa using h2
 exact ⟨by omega,by omega,Bu h3,Bu h4,by unfold mD at h5;simpa using h5⟩
theorem Yf.zero {lots:List (Int×Int)} {cs:List (Int×Int×Int)} {limit:Int} (h:Yf lots cs limit):cK lots cs limit=0:=by
 have b1:mD cs.length 1 4=true:=by unfold mD;have :=h.nc;simp;omega
 have b2:mD limit 0 1000000=true:=by unfold mD;have :=h.lim;simp;omega
 unfold cK;rw [if_neg (by have :=h.nl;omega),if_neg (by rw [b1];simp),if_neg (by rw [any_false h.lot];simp),if_neg (by rw [any_false h.cut];simp),if_neg (by rw [b2];simp)]
theorem Hy {p a b:Int} (h:eF (p,a,b)=false):(1<=p∧p<=1000000)∧0<=a∧a<=b∧b<=1000:=by
 unfold eF at h;simp only [Bool.not_eq_false',aR] at h;exact ⟨by have :=h.1;unfold mD at this;simpa using this,mM.1 h.2⟩
theorem QL {p a b:Int} (h:(1<=p∧p<=1000000)∧0<=a∧a<=b∧b<=1000):eF (p,a,b)=false:=by
 unfold eF;simp only [Bool.not_eq_false',aR];exact ⟨by unfold mD;simp;omega,mM.2 h.2⟩
theorem KU {b:Int} (hb:0<=b) (i:Nat) {x:Int×Int×Int} (h:eF x=false):eF (Bt b i x)=false∧x.1<=(Bt b i x).1∧(Bt b i x).2.2<=x.2.2:=by
 obtain ⟨p,y,z⟩:=x;have g:=Hy h;have m1:0<=b%((i:Int)+2):=Int.emod_nonneg _ (by omega);have m2:0<=b%7:=Int.emod_nonneg _ (by omega);unfold Bt;refine ⟨QL ?_,?_,?_⟩
 ·dsimp only;omega
 ·dsimp only;omega
 ·dsimp only;omega
theorem Hz {lots:List (Int×Int)} {cs:List (Int×Int×Int)} {limit b:Int} {k:Nat} {more:List (Int×Int×Int)} (h:Yf lots cs limit) (hb:0<=b) (hm:more= []∨(∃x,more= [x]∧eF x=false∧cs.length<4)):
 Yf (lots.take k++lots.drop (k+1)) (fC cs b cs.length++more) (min 1000000 (limit+b)):=by
 refine ⟨by have :=h.nl;simp;omega,?_, λx hx=>?_, λx hx=>?_,by have :=h.lim;omega⟩
 ·have h1:=h.nc;rw [List.length_append,eY];rcases hm with rfl|⟨x,rfl,_,h2⟩
  ·simp;omega
  ·simp;omega
 ·rcases List.mem_append.1 hx with h1|h1
  ·exact h.lot x (aU h1)
  ·exact h.lot x (List.mem_of_mem_drop h1)
 ·rcases List.mem_append.1 hx with h1|h1
  ·obtain ⟨j,hj,rfl⟩:=List.mem_iff_getElem.1 h1;rw [eY] at hj;have e:=Hw cs b cs.length j hj;rw [ax (by rw [eY];exact hj)] at e;rw [aD e,ax hj,Option.getD_some];exact (KU hb j (h.cut _ (aI hj))).1
  ·rcases hm with rfl|⟨y,rfl,h2,_⟩
   ·cases h1
   ·rw [aB.1 h1];exact h2
theorem Nk {lots:List (Int×Int)} {cs:List (Int×Int×Int)} {limit b:Int} {k:Nat} {more:List (Int×Int×Int)} (h:Yf lots cs limit) (hb:0<=b) (hm:more= []∨(∃x,more= [x]∧eF x=false∧cs.length<4))
 {who who':List Nat} {n m:Int} {found is:Bool} (b1:lZ lots cs limit (cs.length ^ lots.length) who n found)
 (b2:lZ (lots.take k++lots.drop (k+1)) (fC cs b cs.length++more) (min 1000000 (limit+b)) ((fC cs b cs.length++more).length ^ (lots.take k++lots.drop (k+1)).length) who' m is):(!found||(is&&decide (m<=n)))=true:=by
 cases found with
 |false=>rfl
 |true=>
  have hck:=Hz (k:=k) h hb hm
  have hj:∀j,j<cs.length->(cs[j]?.getD (0,0,0)).1<=((fC cs b cs.length++more)[j]?.getD (0,0,0)).1∧((fC cs b cs.length++more)[j]?.getD (0,0,0)).2.2<=(cs[j]?.getD (0,0,0)).2.2:= λj hj=>by
   rw [List.getElem?_append_left (by rw [eY];exact hj),Hw _ _ _ _ hj,Option.getD_some,ax hj,Option.getD_some];exact (KU hb j (h.cut _ (aI hj))).2
  obtain ⟨h1,h2⟩:=YI (Es h.zero) (Es hck.zero) (by rw [List.length_append,eY];omega) hj (by have :=h.lim;omega) rfl b1 b2;rw [h1];simpa using h2
end Go.Proofs
end
section
namespace Go.Proofs
open Go Go.RowKit Go.Maps
noncomputable def Try.Bv:Code:=Try.f4.body.getD .skip
noncomputable def Try.E14:Code:=(Try.bP 14 Try.Bv).getD .skip
noncomputable def Try.E18:Code:=(Try.bP 18 Try.Bv).getD .skip
variable [Lo.St]
theorem UT {P:Program} {q:FuncId} {fn:Func} (h:P.funcs[q]?=some fn) (c:Code):(P.stub q c).funcs[q]?=some { fn with body:=some c }:=by
 show (P.funcs.modify q _)[q]?=_
 rw [aQ,if_pos rfl,h];rfl
theorem Lo.at5:Lo.prog.funcs[5]?=some { Try.f5 with body:=some Lo.St.c5 }:=by
 rw [Lo.iE];exact Par.rT _ _ _ (UT Try.func5 _) (by decide)
theorem Lo.call5 (args:Array Value) (w:World):Sem.run Lo.prog (callFunc 5 args) w= .ok (.enter 5 args) w:=by
 have hn:(Try.f5.name== "runtime.NumGoroutine")=false:=by kernel_rfl
 unfold callFunc;simp only [program,Bind.bind,Sem.bind,Sem.run,Lo.at5,hn];rfl
def Ia [Lo.St]:Prop:=∀w:World,Calls Lo.prog 5 #[] w λe w'=>e= .returned (.bool true)∧w'=w
theorem Lo.KV {w:World} {B:Nat} {lots l1:List (Int×Int)} {cs more l2:List (Int×Int×Int)} {A1 A3 A4:Option Addr} {c1 c3 c4 k:Nat} {who:List Nat} {limit b16 lot hours:Int} {found:Bool} (h5:Ia) (hl1:l1=lots.take k++lots.drop (k+1)) (h1:K8 w w.heap.size A4 l1) (hl2:l2=fC cs b16 cs.length++more) (h3:IJ w w.heap.size A3 l2) (hck:Yf lots cs limit) (yJ:0<=b16∧b16<65536) (hm:more= []∨(∃x,more= [x]∧eF x=false∧cs.length<4)) (eO:lZ lots cs limit (cs.length ^ lots.length) who hours found) (t1 t3 t6 t7 t8 t9 t10 t11 t12 t13 t18 t19 t21 t22 t23 t24 t25 t26 t27 t28 t29 t30 t31 t32 t33 t34 t35 t36 t37 t38 t39 t40 t41 t42 t43 t44 t45 t46 t47 t48 t49 t50 t51 t52 t53 t54 t55 t56 t57 t58 t59 t60 t61 t62 t63 t64 t65 t66 t67 t68 t69 t70 t71 t72 t73 t74 t75 t76 t77 t78 t79 t80 t81 t82 t83 t84 t85 t86 t87 t88 t89 t90 t91 t92 t93 t94 t95 t96 t97 t98 t99 t100 t101 t102 t103 t104 t105 t106 t107 t108 t109 t110 t111 t112 t113 t114 t115 t116 t117 t118 t119 t120 t121 t122 t123 t124 t125 t126 t127 t128 t129 t130 t131 t132 t133 t134 t135 t136 t137 t138 t139 t140 t141 t142 t143 t144 t145 t146 t147 t148 t149 t150 t151 t152 t153 t154 t155 t156 t157 t158:Value):
 Try.E18.wp Lo.prog (bodyPost Lo.prog Try.f4 λe w'=>e= .returned (.bool true)) ⟨#[.slice A1 lots.length c1,t1,.int .i64 limit,t3,.int .u16 b16,.int .u8 lot,t6,t7,t8,t9,t10,t11,t12,t13,.int .i64 hours,.bool found,.int .i64 0,.slice A3 l2.length c3,t18,t19,.slice A4 l1.length c4,t21,t22,t23,t24,t25,t26,t27,t28,t29,t30,t31,t32,t33,t34,t35,t36,t37,t38,t39,t40,t41,t42,t43,t44,t45,t46,t47,t48,t49,t50,t51,t52,t53,t54,t55,t56,t57,t58,t59,t60,t61,t62,t63,t64,t65,t66,t67,t68,t69,t70,t71,t72,t73,t74,t75,t76,t77,t78,t79,t80,t81,t82,t83,t84,t85,t86,t87,t88,t89,t90,t91,t92,t93,t94,t95,t96,t97,t98,t99,t100,t101,t102,t103,t104,t105,t106,t107,t108,t109,t110,t111,t112,t113,t114,t115,t116,t117,t118,t119,t120,t121,t122,t123,t124,t125,t126,t127,t128,t129,t130,t131,t132,t133,t134,t135,t136,t137,t138,t139,t140,t141,t142,t143,t144,t145,t146,t147,t148,t149,t150,t151,t152,t153,t154,t155,t156,t157,t158],[]⟩ w:=by
 obtain ⟨U,U2,U3,U4,U5,U6⟩:=@Lo.facts inferInstance;have C:=(@Lo.call5 inferInstance);have C3:=(@Lo.call6 inferInstance);have ck2:=Hz (k:=k) hck yJ.1 hm;rw [<-hl1, <-hl2] at ck2;have hz2:=ck2.zero
 have MO:∀(who':List Nat) (m:Int) (is:Bool),lZ l1 l2 (min 1000000 (limit+b16)) (l2.length ^ l1.length) who' m is->(!found||(is&&decide (m<=hours)))=true:= λwho' m is hb=>by
  subst hl1;subst hl2;exact Nk hck yJ.1 hm eO hb
 obtain ⟨lm,hlm⟩:∃lm,min 1000000 (limit+b16)=lm:=⟨_,rfl⟩;have av9:(if limit+b16<1000000 then limit+b16 else 1000000)=lm:=by rw [<-hlm];split<;>omega
 rw [hlm] at hz2 MO ck2;have n1:=ck2.nl;have n2:=ck2.nc;obtain ⟨m1,m2⟩:=hck.lim;obtain ⟨g1,g2⟩:=yJ;have iw1:IntKind.i64.wrap b16=b16:=by rw [IntKind.wrap_i64];omega
 have iw2:IntKind.i64.wrap (limit+b16)=limit+b16:=by rw [IntKind.wrap_i64];omega
 have H5:=Lib.hid h5;have HX:=Lib.hid (au hz2 (au h1 (au h3 (au MO hlm))));clear h5 hz2 h1 h3 MO hlm hl1 hl2 eO hm ck2;simp only [Try.E18,Try.Bv,Try.f4,Try.bP,Try.cu,Option.getD_some,Nat.reduceEqDiff,if_true,if_false,reduceIte]
 go_wp2_with (first |(go_at_call 5;refine (H5.out _).mono ?_;rintro e w1 ⟨rfl,rfl⟩)|(go_at_call 6;refine (Lo.BO (B:=w.heap.size) HX.out.2.1 HX.out.2.2.1 (by omega) (by omega) (aj _) _).mono ?_;rintro e w2 ⟨hb2,hx⟩;rw [if_neg (by rw [HX.out.1];simp)] at hx;obtain ⟨Aw,qw,who',m,is,rfl,eO, -⟩:=hx;have HB:=HX.out.2.2.2.1 who' m is eO;clear eO hb2;have hfs:found=false∨(found=true∧is=true∧m<=hours):=(by cases found with |false=>exact .inl rfl|true=>exact .inr ⟨rfl,by simpa using HB⟩);clear HB;rcases hfs with rfl|⟨rfl,rfl,hmh⟩))
 all_goals go_ret
 all_goals rfl
theorem KX {P:Program} {c:Code} {Q:Exit->Act->World->Prop} {a:Act} {w:World} {A:Value->Option Addr->Nat->Act} (R:Option Addr->Nat->World->Prop) (h1:∀K:Act->World->Prop,(∀v A4 c4 w1,R A4 c4 w1->K (A v A4 c4) w1)->Code.wp P c (yL K) a w) (h2:∀v A4 c4 w1,R A4 c4 w1->Q .normal (A v A4 c4) w1):Code.wp P c Q a w:=Code.wp_mono yL.imp (h1 _ h2)
theorem UU {P:Program} {x y:Code} {Q:Exit->Act->World->Prop} {a:Act} {w:World} (h:∀K:Act->World->Prop,Hid (∀a w,y.wp P Q a w->K a w)->x.wp P (Exit.then K Q) a w):(Code.seq x y).wp P Q a w:=wp_seq_k λK hK=>h K (Lib.hid hK)
theorem Lo.FC {w:World} {B:Nat} {lots:List (Int×Int)} {cs more l2:List (Int×Int×Int)} {A1 A3:Option Addr} {c1 c3:Nat} {who:List Nat} {limit b16 lot hours:Int} {found:Bool} (h5:Ia) (h1:K8 w B A1 lots) (hB:B<=w.heap.size) (hcap:lots.length<=c1) (hl2:l2=fC cs b16 cs.length++more) (h3:IJ w w.heap.size A3 l2) (hck:Yf lots cs limit) (yJ:0<=b16∧b16<65536) (AA:0<=lot∧lot<256) (hm:more= []∨(∃x,more= [x]∧eF x=false∧cs.length<4)) (eO:lZ lots cs limit (cs.length ^ lots.length) who hours found) (t1 t3 t6 t7 t8 t9 t10 t11 t12 t13 t18 t19 t20 t21 t22 t23 t24 t25 t26 t27 t28 t29 t30 t31 t32 t33 t34 t35 t36 t37 t38 t39 t40 t41 t42 t43 t44 t45 t46 t47 t48 t49 t50 t51 t52 t53 t54 t55 t56 t57 t58 t59 t60 t61 t62 t63 t64 t65 t66 t67 t68 t69 t70 t71 t72 t73 t74 t75 t76 t77 t78 t79 t80 t81 t82 t83 t84 t85 t86 t87 t88 t89 t90 t91 t92 t93 t94 t95 t96 t97 t98 t99 t100 t101 t102 t103 t104 t105 t106 t107 t108 t109 t110 t111 t112 t113 t114 t115 t116 t117 t118 t119 t120 t121 t122 t123 t124 t125 t126 t127 t128 t129 t130 t131 t132 t133 t134 t135 t136 t137 t138 t139 t140 t141 t142 t143 t144 t145 t146 t147 t148 t149 t150 t151 t152 t153 t154 t155 t156 t157 t158:Value):
 Try.E14.wp Lo.prog (bodyPost Lo.prog Try.f4 λe w'=>e= .returned (.bool true)) ⟨#[.slice A1 lots.length c1,t1,.int .i64 limit,t3,.int .u16 b16,.int .u8 lot,t6,t7,t8,t9,t10,t11,t12,t13,.int .i64 hours,.bool found,.int .i64 0,.slice A3 l2.length c3,t18,t19,t20,t21,t22,t23,t24,t25,t26,t27,t28,t29,t30,t31,t32,t33,t34,t35,t36,t37,t38,t39,t40,t41,t42,t43,t44,t45,t46,t47,t48,t49,t50,t51,t52,t53,t54,t55,t56,t57,t58,t59,t60,t61,t62,t63,t64,t65,t66,t67,t68,t69,t70,t71,t72,t73,t74,t75,t76,t77,t78,t79,t80,t81,t82,t83,t84,t85,t86,t87,t88,t89,t90,t91,t92,t93,t94,t95,t96,t97,t98,t99,t100,t101,t102,t103,t104,t105,t106,t107,t108,t109,t110,t111,t112,t113,t114,t115,t116,t117,t118,t119,t120,t121,t122,t123,t124,t125,t126,t127,t128,t129,t130,t131,t132,t133,t134,t135,t136,t137,t138,t139,t140,t141,t142,t143,t144,t145,t146,t147,t148,t149,t150,t151,t152,t153,t154,t155,t156,t157,t158],[]⟩ w:=by
 obtain ⟨U,U2,U3,U4,U5,U6⟩:=@Lo.facts inferInstance;obtain ⟨Q,hQ⟩:∃Q,bodyPost Lo.prog Try.f4 (λe _=>e= .returned (.bool true))=Q:=⟨_,rfl⟩;have HE:=Lib.hid (au h5 (au hl2 (au h3 (au hck (au yJ (au hm (au eO hQ)))))));have nl:=hck.nl;rw [hQ];obtain ⟨l1',l2'⟩:=AA;have H1:=Lib.hid h1;clear h5 hl2 h3 hck yJ hm eO hQ h1;simp only [Try.E14,Try.Bv,Try.f4,Try.bP,Try.cu,Option.getD_some,Nat.reduceEqDiff,if_true,if_false,reduceIte];refine UU λK HK=>?_
 go_wp2;refine HK.out _ _ ?_
 clear HK K;refine UU λK HK=>?_
 by_cases h0:lots.length=0
 ·have hlen:¬(0:Int)<(lots.length:Int):=by omega
  go_wp2;refine HK.out _ _ ?_
  obtain rfl:lots= []:=List.eq_nil_of_length_eq_zero h0;have h:=@Lo.KV _ w B [] [] cs more l2 A1 A3 A1 c1 c3 c1 0 who limit b16 lot hours found HE.out.1 rfl (λh=>absurd h (by simp)) HE.out.2.1 HE.out.2.2.1 HE.out.2.2.2.1 HE.out.2.2.2.2.1 HE.out.2.2.2.2.2.1 HE.out.2.2.2.2.2.2.1;rw [HE.out.2.2.2.2.2.2.2] at h;simp only [Try.E18,Try.Bv,Try.f4,Try.bP,Try.cu,Option.getD_some,Nat.reduceEqDiff,if_true,if_false,reduceIte] at h;exact h _ _ _ _ _ _ _ _ _ _ _ _ _ _ _ _ _ _ _ _ _ _ _ _ _ _ _ _ _ _ _ _ _ _ _ _ _ _ _ _ _ _ _ _ _ _ _ _ _ _ _ _ _ _ _ _ _ _ _ _ _ _ _ _ _ _ _ _ _ _ _ _ _ _ _ _ _ _ _ _ _ _ _ _ _ _ _ _ _ _ _ _ _ _ _ _ _ _ _ _ _ _ _ _ _ _ _ _ _ _ _ _ _ _ _ _ _ _ _ _ _ _ _ _ _ _ _ _ _ _ _ _ _ _ _ _ _ _ _ _ _ _ _ _ _ _ _ _ _ _
 ·have hlen:(0:Int)<(lots.length:Int):=by omega
  have hne:¬(lots.length:Int)=0:=by omega
  go_wp2;have hm1:0<=lot%(lots.length:Int):=Int.emod_nonneg _ (by omega);have hm2:lot%(lots.length:Int)<(lots.length:Int):=Int.emod_lt_of_pos _ (by omega);obtain ⟨k,hk⟩:∃k:Nat,lot%(lots.length:Int)=(k:Int):=⟨(lot%(lots.length:Int)).toNat,by omega⟩;rw [hk] at hm1 hm2;rw [hk];have hkn:k<lots.length:=by omega
  obtain ⟨bb,off,rfl,hbb,hc⟩:=H1.out (by omega);obtain ⟨i0,hi,hz0,hz1,hz2⟩:=info_parts Lo.Lp;have hn1:=Da (w:=w) hc 0 k (by omega);have hn2:=Da (w:=w) hc (k+1) (lots.length - (k+1)) (by omega);rw [List.drop_zero,Nat.zero_mul,Nat.add_zero] at hn1;rw [List.take_of_length_le (by simp)] at hn2;have e1:(iO (lots.take k)).length=k*2:=by rw [wR];simp;omega
  have e2:(iO (lots.drop (k+1))).length=(lots.length - (k+1))*2:=by rw [wR];simp
  have hown:(w.alloc (.cells #[] 32)).ownsRow w.heap.size 32 2 (.slice (some ⟨w.heap.size,0,none⟩) 0 0) 0 []:=by
   refine ⟨rfl,.inr ⟨w.heap.size,0,#[],rfl,aj _,World.alloc_heap_new _ _,aj _,?_,?_,?_⟩⟩
   all_goals simp
  have one:∀l:List (Int×Int),∀u∈iO l,u.oneCell'=true:= λl u hu=>by
   obtain ⟨x,rfl⟩:=FB hu;rfl
  have HN:=Lib.hid (au hn1 (au hn2 (au e1 (au e2 (au hown one)))));have hk':(k:Int)<=(lots.length:Int):=by omega
  have aw0:(k:Int)+1<=(lots.length:Int):=by omega
  have au4:(lots.length:Int)<=(c1:Int):=by omega
  have hkc:k<=c1:=by omega
  have aw1:k+1<=c1:=by omega
  have hkl:k+1<=lots.length:=by omega
  have hk0:0<=(k:Int)+1:=by omega
  have hw1:IntKind.i64.wrap ((k:Int)+1)=((k+1:Nat):Int):=by rw [IntKind.wrap_i64];omega
  have hnews1:∀X:World,Below w.heap.size w X->∀j u,(iO (lots.take k))[j]?=some u->X.cell? ((⟨bb,off,none⟩:Addr).add j)=some u:= λX hX j u hu=>(hX.cell (p:=(⟨bb,off,none⟩:Addr).add j) (Nat.lt_of_le_of_lt (Nat.le_of_eq (by unfold Addr.add;split<;>rfl)) (ak hbb hB))).trans (hn1 j u hu)
  have UW:∀X:World,Below w.heap.size w X->∀j u,(iO (lots.drop (k+1)))[j]?=some u->X.cell? ((if c1=k+1 then (⟨bb,off,none⟩:Addr) else ⟨bb,off+(k+1)*2,none⟩).add j)=some u:= λX hX j u hu=>by
   by_cases hcc:c1=k+1
   ·exfalso;have :=(aJ.1 hu).1;rw [e2] at this;omega
   ·rw [if_neg hcc];exact (hX.cell (p:=(⟨bb,off+(k+1)*2,none⟩:Addr).add j) (Nat.lt_of_le_of_lt (Nat.le_of_eq (by unfold Addr.add;split<;>rfl)) (ak hbb hB))).trans (hn2 j u hu)
  obtain ⟨l1,hl1⟩:∃l1,l1=lots.take k++lots.drop (k+1):=⟨_,rfl⟩;have hlen1:0+k+(lots.length - (k+1))=l1.length:=by rw [hl1];simp;omega
  have hW0:Below w.heap.size w (w.alloc (.cells #[] 32)).drew:=((Below.refl _ _).alloc (aj _) _).drew
  have hfin:∀X v,X.ownsRow w.heap.size 32 2 v (0+k+(lots.length - (k+1))) ([]++iO (lots.take k)++iO (lots.drop (k+1)))->∃A4 c4,v= .slice A4 l1.length c4∧K8 X X.heap.size A4 l1:= λX v hr=>by
   rw [hlen1,List.nil_append, <-Nj, <-hl1] at hr;obtain ⟨A4,c4,rfl, -,hr⟩:=ownsRow.rd (B:=X.heap.size) (f:=xJ l1) hr (λi j hi hj=>wT l1 i j hi hj);exact ⟨A4,c4,rfl,hr _ (aj _) (aj _)⟩
  have HN:=Lib.hid (au hnews1 (au UW (au e1 (au e2 (au hown.drew (au one (au hfin (au hl1 hW0))))))));clear hn1 hn2 e1 e2 hown one hc hnews1 UW hfin hl1 hlen1 hW0;apply KX (λA4 c4 wx=>K8 wx wx.heap.size A4 l1∧Below w.heap.size w wx)
  case h1=>
   intro Q' hK
   go_region_law (first
    |(refine Par.wX rfl (.tmp 115) (.tmp 118) 22 rfl w.heap.size 32 i0 (.agg #[.int .i64 0,.int .i64 0]) 2 16 Lo.ND hi hz0 hz1 hz2 rfl (by decide) _ 0 [] rfl HN.out.2.2.2.2.1 ⟨bb,off,none⟩ k c1 (iO (lots.take k)) rfl HN.out.2.2.1 (HN.out.1 _ HN.out.2.2.2.2.2.2.2.2) (HN.out.2.2.2.2.2.1 _) (by unfold maxLen;omega) (by omega) (by show _<=(World.alloc _ _).heap.size;rw [World.size_alloc];omega) ?_
      intro v1 w1 a1 a2;have hb1:Below w.heap.size w w1:=HN.out.2.2.2.2.2.2.2.2.grown a2 (by show _<=(World.alloc _ _).heap.size;rw [World.size_alloc];omega) (λj hj=>(HN.out.2.2.2.2.1.lt j hj).1);have HA:=Lib.hid (au a1 hb1);clear a1 a2 hb1)
    |(refine Par.wX rfl (.tmp 119) (.tmp 123) 22 rfl w.heap.size 32 i0 (.agg #[.int .i64 0,.int .i64 0]) 2 16 Lo.ND hi hz0 hz1 hz2 rfl (by decide) _ (0+k) ([]++iO (lots.take k)) rfl HA.out.1 (if c1=k+1 then (⟨bb,off,none⟩:Addr) else ⟨bb,off+(k+1)*2,none⟩) (lots.length - (k+1)) (c1 - (k+1)) (iO (lots.drop (k+1))) ?hx HN.out.2.2.2.1 (HN.out.2.1 _ HA.out.2) (HN.out.2.2.2.2.2.1 _) (by unfold maxLen;omega) (by omega) HA.out.2.size ?_
      case hx=>refine Eq.trans (b:=Value.slice (if c1=k+1 then some (⟨bb,off,none⟩:Addr) else some ⟨bb,off+(k+1)*2,none⟩) (lots.length - (k+1)) (c1 - (k+1))) rfl ?_;split<;>rfl
      intro v2 w2 a1 a2;obtain ⟨A4,c4,rfl,hr4⟩:=HN.out.2.2.2.2.2.2.1 _ _ a1;have hb2:Below w.heap.size w w2:=HA.out.2.grown a2 HA.out.2.size (λj hj=>(HA.out.1.lt j hj).1);have HZ:=Lib.hid (au hr4 hb2);clear a1 a2 hr4 hb2))
   all_goals exact hK v1 A4 c4 _ ⟨HZ.out.1,HZ.out.2⟩
  case h2=>
   rintro v A4 c4 wx ⟨q1,q2⟩;refine HK.out _ _ ?_
   have h3:IJ wx wx.heap.size A3 l2:= λhn=>by
    obtain ⟨b3,o3,e3,hb3,hc3⟩:=HE.out.2.2.1 hn;exact ⟨b3,o3,e3,ak hb3 q2.size, λi j hi hj=>(bV q2 b3 _ hb3).trans (hc3 i j hi hj)⟩
   have h:=@Lo.KV _ wx B lots l1 cs more l2 (some ⟨bb,off,none⟩) A3 A4 c1 c3 c4 k who limit b16 lot hours found HE.out.1 HN.out.2.2.2.2.2.2.2.1 q1 HE.out.2.1 h3 HE.out.2.2.2.1 HE.out.2.2.2.2.1 HE.out.2.2.2.2.2.1 HE.out.2.2.2.2.2.2.1;rw [HE.out.2.2.2.2.2.2.2] at h;simp only [Try.E18,Try.Bv,Try.f4,Try.bP,Try.cu,Option.getD_some,Nat.reduceEqDiff,if_true,if_false,reduceIte] at h;exact h _ _ _ _ _ _ _ _ _ _ _ _ _ _ _ _ _ _ _ _ _ _ _ _ _ _ _ _ _ _ _ _ _ _ _ _ _ _ _ _ _ _ _ _ _ _ _ _ _ _ _ _ _ _ _ _ _ _ _ _ _ _ _ _ _ _ _ _ _ _ _ _ _ _ _ _ _ _ _ _ _ _ _ _ _ _ _ _ _ _ _ _ _ _ _ _ _ _ _ _ _ _ _ _ _ _ _ _ _ _ _ _ _ _ _ _ _ _ _ _ _ _ _ _ _ _ _ _ _ _ _ _ _ _ _ _ _ _ _ _ _ _ _ _ _ _ _ _ _ _
end Go.Proofs
end
section
namespace Go.Proofs
open Go Go.RowKit Go.Maps
variable [Lo.St]
theorem Lo.QM {w:World} {B:Nat} {lots:List (Int×Int)} {cs:List (Int×Int×Int)} {A1 A2:Option Addr} {c1 c2:Nat} (h5:Ia) (h1:K8 w B A1 lots) (h2:IJ w B A2 cs) (hB:B<=w.heap.size) (limit p a b b16 lot:Int) (hno:40<lots.length∨40<cs.length∨cK lots cs limit≠0):
 Calls Lo.prog 4 #[.slice A1 lots.length c1,.slice A2 cs.length c2,.int .i64 limit,.agg #[.int .i64 p,.int .i64 a,.int .i64 b],.int .u16 b16,.int .u8 lot] w λe w'=>e= .returned (.bool true):=by
 obtain ⟨U,U2,U3,U4,U5,U6⟩:=@Lo.facts inferInstance;have C:=(@Lo.call5 inferInstance);have C2:=(@Lo.call9 inferInstance);have H5:=Lib.hid h5;have HR:=Lib.hid (au h1 h2);clear h5 h1 h2
 by_cases q1:40<lots.length
 ·have d1:(40:Int)<(lots.length:Int):=by omega
  clear hno q1;go_enter Lo.func4,Try.ntmps4
  go_wp2_with (go_at_call 5;refine (H5.out _).mono ?_;rintro e w1 ⟨rfl,rfl⟩)
  go_ret;rfl
 have d1:¬(40:Int)<(lots.length:Int):=by omega
 by_cases q2:40<cs.length
 ·have d2:(40:Int)<(cs.length:Int):=by omega
  clear hno q2;go_enter Lo.func4,Try.ntmps4
  go_wp2_with (go_at_call 5;refine (H5.out _).mono ?_;rintro e w1 ⟨rfl,rfl⟩)
  go_ret;rfl
 have d2:¬(40:Int)<(cs.length:Int):=by omega
 have hne:¬cK lots cs limit=0:=by
  rcases hno with h|h|h
  ·exact absurd h q1
  ·exact absurd h q2
  ·exact h
 generalize hcx:cK lots cs limit=cx at hne;have HX:=Lib.hid hcx;clear hcx;go_enter Lo.func4,Try.ntmps4
 go_wp2_with (first
  |(go_at_call 5;refine (H5.out _).mono ?_;rintro e w1 ⟨rfl,rfl⟩)
  |(go_at_call 9;refine (Lo.Je (B:=B) (HR.out.1.keep λb o h=>World.cell?_alloc_past _ _ _ (by show b<w.heap.size;omega)) (HR.out.2.keep λb o h=>World.cell?_alloc_past _ _ _ (by show b<w.heap.size;omega)) (by omega) (by omega) (by simp;omega) _).mono ?_;rintro e w1 ⟨rfl,hb1⟩;rw [HX.out]))
 go_ret;rfl
theorem jE {X:World} {b:Nat} {c:Array Value} {e:TypeId} {fr:Nat×Nat} (h:X.heap[b]?=some (.cells c e fr)) (o:Nat):X.cell? ⟨b,o,none⟩=c[o]?:=by
 unfold World.cell?;simp only [h];cases c[o]?<;>rfl
theorem Lo.Yg:Lo.prog.underlying 23=some (.slice 34):=(Lo.underlying 23).trans (by kernel_rfl)
theorem Lo.ab9:(Lo.prog.info? 34).map (λi=>(i.zero,i.size,i.bytes))=some (some (.agg #[.int .i64 0,.int .i64 0,.int .i64 0]),3,24):=by
 rw [Lo.info];kernel_rfl
theorem Lo.Nl {w:World} {B:Nat} {lots:List (Int×Int)} {cs:List (Int×Int×Int)} {A1 A2:Option Addr} {c1 c2:Nat} (h5:Ia) (h1:K8 w B A1 lots) (h2:IJ w B A2 cs) (hB:B<=w.heap.size) (hcap:lots.length<=c1) (limit p a b b16 lot:Int) (yJ:0<=b16∧b16<65536) (AA:0<=lot∧lot<256) (hz:cK lots cs limit=0):
 Calls Lo.prog 4 #[.slice A1 lots.length c1,.slice A2 cs.length c2,.int .i64 limit,.agg #[.int .i64 p,.int .i64 a,.int .i64 b],.int .u16 b16,.int .u8 lot] w λe w'=>e= .returned (.bool true):=by
 obtain ⟨U,U2,U3,U4,U5,U6⟩:=@Lo.facts inferInstance;have C:=(@Lo.call5 inferInstance);have C2:=(@Lo.call9 inferInstance);have C3:=(@Lo.call6 inferInstance);have C4:=(@Lo.call10 inferInstance);have ck:=UR hz;have nl:=ck.nl;obtain ⟨nc1,nc2⟩:=ck.nc;obtain ⟨aw2,aw3⟩:=ck.lim;obtain ⟨hb1,hb2⟩:=yJ;obtain ⟨hl1,hl2⟩:=AA;have d1:¬(40:Int)<(lots.length:Int):=by omega
 have d2:¬(40:Int)<(cs.length:Int):=by omega
 have H5:=Lib.hid h5;have HZ:=Lib.hid (au hz ck);have hwx:Below w.heap.size w (w.alloc (.cells #[.int .i64 p,.int .i64 a,.int .i64 b] 34)):=(Below.refl _ _).alloc (aj _) _;have HR:=Lib.hid (au h1 (au h2 hwx));have Ud:=Lib.hid trivial;have Ue:=Lib.hid trivial;clear h5 h1 h2 hz ck hwx;go_enter Lo.func4,Try.ntmps4
 go_wp2_with (first
  |(have t:=Ud;clear Ud t;go_at_call 9;refine (Lo.Je (B:=B) (HR.out.1.keep λx o h=>bV HR.out.2.2 x o (by omega)) (HR.out.2.1.keep λx o h=>bV HR.out.2.2 x o (by omega)) (by omega) (by omega) (by simp;omega) _).mono ?_;rintro e w1 ⟨rfl,hbq⟩;rw [HZ.out.1];have am5:=HR.out.2.2.trans (hbq.mono (by simp));have hz1:=hbq.size;have hbx:=(hbq.block w.heap.size (by simp)).trans (World.alloc_heap_new _ _);have H1:=Lib.hid (au am5 hbx);clear am5 hbx)
  |(have t:=Ue;clear Ue t;go_at_call 6;refine (Lo.BO (B:=B) (HR.out.1.keep λx o h=>bV H1.out.1 x o (by omega)) (HR.out.2.1.keep λx o h=>bV H1.out.1 x o (by omega)) (by omega) (by omega) (by simp at hz1;omega) _).mono ?_;rintro e w2 ⟨hb2,hx⟩;rw [if_neg (by rw [HZ.out.1];simp)] at hx;obtain ⟨Aw,qw,who,hours,found,rfl,eO, -⟩:=hx;have hz2:=hb2.size;have H2:=Lib.hid (au hb2 eO);clear hb2 eO))
 simp at hz1;have hbw:Below w.heap.size w w2:=H1.out.1.trans (H2.out.1.mono (by omega));have am6:w2.heap[w.heap.size]?=some (.cells #[.int .i64 p,.int .i64 a,.int .i64 b] 34):=(H2.out.1.block _ (by omega)).trans H1.out.2
 have HW:=Lib.hid (au hbw am6);clear hbw am6;obtain ⟨i0,hi,hz0,hz1',hz2'⟩:=info_parts Lo.ab9
 go_loopw [17,18] (λv i wr=>∃k:Nat,k<=cs.length∧i= .int .i64 (k:Int)∧wr.ownsRow w2.heap.size 34 3 v k (lU (fC cs b16 k))∧Par.cZ wr v∧Below w2.heap.size w2 wr) (λ_ i _=>cs.length - (intOf i).toNat)
 case atStart=>exact ⟨0,aL _,rfl,World.ownsRow_nil w2 w2.heap.size 34 3,Par.cZ.nil _,Below.refl _ _⟩
 case round=>
  obtain ⟨k,hk,rfl,hown,hpl,hb⟩:=hrel
  by_cases hlt:k<cs.length
  ·have hlt':(k:Int)<(cs.length:Int):=by omega
   obtain ⟨cb,co,rfl,hcb,hcc⟩:=HR.out.2.1 (by omega);have hcl:∀o,wr.cell? ⟨cb,o,none⟩=w.cell? ⟨cb,o,none⟩:= λo=>(bV hb cb o (by omega)).trans (bV HW.out.1 cb o (by omega))
   have r1:=(hcl _).trans (vY hcc hlt).1;have r2:=(hcl _).trans (vY hcc hlt).2.1;have r3:=(hcl _).trans (vY hcc hlt).2.2;have hgood:=Hy (HZ.out.2.cut _ (aI hlt))
   have hnext:fC cs b16 (k+1)=fC cs b16 k++ [Bt b16 k cs[k]]:=by
    show fC cs b16 k++ [Bt b16 k ((cs[k]?).getD (0,0,0))]=_;rw [ax hlt,Option.getD_some]
   have hcut:Bt b16 k cs[k]=(min 1000000 (cs[k].1+b16%((k:Int)+2)),max 0 (cs[k].2.1 - b16%7),max 0 (cs[k].2.2 - b16%7)):=rfl;rw [hcut] at hnext;clear hcut;generalize cs[k].1=cp at r1 hgood hnext;generalize cs[k].2.1=ca at r2 hgood hnext;generalize cs[k].2.2=ce at r3 hgood hnext;have HO:=Lib.hid (au hown (au hpl (au hb hnext)));clear hown hpl hb hnext hcl;go_wp2;have hk2:¬((k:Int)+2=0):=by omega
   have QZ:(wr.alloc (.cells #[.int .i64 cp,.int .i64 ca,.int .i64 ce] 34)).heap[wr.heap.size]?=some (.cells #[.int .i64 cp,.int .i64 ca,.int .i64 ce] 34):=World.alloc_heap_new _ _
   have hXw:Below wr.heap.size wr (wr.alloc (.cells #[.int .i64 cp,.int .i64 ca,.int .i64 ce] 34)):=(Below.refl _ _).alloc (aj _) _;obtain ⟨X,hX⟩:∃X,wr.alloc (.cells #[.int .i64 cp,.int .i64 ca,.int .i64 ce] 34)=X:=⟨_,rfl⟩;rw [hX] at QZ hXw;rw [hX];have HXX:=Lib.hid (au QZ hXw);have x0:=jE QZ 0;have x1:=jE QZ 1;have x2:=jE QZ 2;have y0:X.frozen? ⟨wr.heap.size,0,none⟩=false:=by unfold World.frozen?;simp only [QZ];rfl
   have y1:X.frozen? ⟨wr.heap.size,1,none⟩=false:=by unfold World.frozen?;simp only [QZ];rfl
   have y2:X.frozen? ⟨wr.heap.size,2,none⟩=false:=by unfold World.frozen?;simp only [QZ];rfl
   simp only [List.getElem?_toArray,List.getElem?_cons_zero,List.getElem?_cons_succ] at x0 x1 x2;clear hX QZ hXw;have m1:0<=b16%((k:Int)+2):=Int.emod_nonneg _ (by omega);have m1':b16%((k:Int)+2)<(k:Int)+2:=Int.emod_lt_of_pos _ (by omega);have m2:0<=b16%7:=Int.emod_nonneg _ (by omega);have m2':b16%7<7:=Int.emod_lt_of_pos _ (by omega);have iw1:IntKind.i64.wrap b16=b16:=by rw [IntKind.wrap_i64];omega
   have iw2:IntKind.i64.wrap ((k:Int)+2)=(k:Int)+2:=by rw [IntKind.wrap_i64];omega
   have iw3:b16.tmod ((k:Int)+2)=b16%((k:Int)+2):=Int.tmod_eq_emod_of_nonneg hb1;have iw4:IntKind.i64.wrap (b16%((k:Int)+2))=b16%((k:Int)+2):=by rw [IntKind.wrap_i64];omega
   have iw5:IntKind.i64.wrap (cp+b16%((k:Int)+2))=cp+b16%((k:Int)+2):=by rw [IntKind.wrap_i64];omega
   have iw6:b16.tmod 7=b16%7:=Int.tmod_eq_emod_of_nonneg hb1;obtain ⟨np,ac0⟩:∃np,min 1000000 (cp+b16%((k:Int)+2))=np:=⟨_,rfl⟩;have hnp:(if cp+b16%((k:Int)+2)<1000000 then cp+b16%((k:Int)+2) else 1000000)=np:=by rw [<-ac0];split<;>omega
   have HN:=Lib.hid ac0;clear ac0;obtain ⟨na,ac1⟩:∃na,max 0 (ca - b16%7)=na:=⟨_,rfl⟩;have hna:(if b16%7<ca then ca - b16%7 else 0)=na:=by rw [<-ac1];split<;>omega
   obtain ⟨nb,ac2⟩:∃nb,max 0 (ce - b16%7)=nb:=⟨_,rfl⟩;have hnb:(if b16%7<ce then ce - b16%7 else 0)=nb:=by rw [<-ac2];split<;>omega
   have hb3:((X.setCell ⟨wr.heap.size,0,none⟩ (.int .i64 np)).alloc (.cells #[.int .i64 na,.int .i64 nb] 32)).heap[wr.heap.size]?=some (.cells #[.int .i64 np,.int .i64 ca,.int .i64 ce] 34):=by
    have h1:wr.heap.size<X.heap.size:=(aa.1 HXX.out.1).1;rw [Below.heap_alloc _ _ _ (by simp [World.setCell];exact h1)];show (X.setCell ⟨wr.heap.size,0,none⟩ (.int .i64 np)).heap[wr.heap.size]?=_
    rw [heap_setCell_same X _ 0 _ 34 _ HXX.out.1];rfl
   have z0:=jE hb3 0;have z1:=jE hb3 1;have z2:=jE hb3 2;have z3:((X.setCell ⟨wr.heap.size,0,none⟩ (.int .i64 np)).alloc (.cells #[.int .i64 na,.int .i64 nb] 32)).frozen? ⟨wr.heap.size,1,none⟩=false:=by unfold World.frozen?;simp only [hb3];rfl
   have z4:((X.setCell ⟨wr.heap.size,0,none⟩ (.int .i64 np)).alloc (.cells #[.int .i64 na,.int .i64 nb] 32)).frozen? ⟨wr.heap.size,2,none⟩=false:=by unfold World.frozen?;simp only [hb3];rfl
   simp only [List.getElem?_toArray,List.getElem?_cons_zero,List.getElem?_cons_succ] at z0 z1 z2
   have hY:Below wr.heap.size wr ((((X.setCell ⟨wr.heap.size,0,none⟩ (.int .i64 np)).alloc (.cells #[.int .i64 na,.int .i64 nb] 32)).setCell ⟨wr.heap.size,1,none⟩ (.int .i64 na)).setCell ⟨wr.heap.size,2,none⟩ (.int .i64 nb)):=
    (((HXX.out.2.setCell (p:=⟨wr.heap.size,0,none⟩) (aj _) _).alloc (by have :=HXX.out.2.size;simp [World.setCell];omega) _).setCell (p:=⟨wr.heap.size,1,none⟩) (aj _) _).setCell (p:=⟨wr.heap.size,2,none⟩) (aj _) _
   have HY:=Lib.hid hY;clear hY;have HNA:=Lib.hid (au ac1 (au ac2 hb3));clear ac1 ac2 hb3
   go_still_tail 10,Lo.mixed
   change wpList _ _ _ _ _ X.drew
   go_wp2_with (first
    |(go_at_call 10;refine (Lo.Ao _ _ _).mono ?_;rintro e w1 ⟨rfl,rfl⟩)
    |(at_builtin;refine Par.dP rfl _ _ 23 rfl w2.heap.size 34 i0 (.agg #[.int .i64 0,.int .i64 0,.int .i64 0]) 3 24 Lo.Yg hi hz0 hz1' hz2' rfl (by decide) _ k _ rfl (((ownsRow.below HO.out.1 HY.out).alloc _).drew) ⟨X.heap.size+1,0,none⟩ 1 1 [.int .i64 np,.int .i64 na,.int .i64 nb] rfl rfl ?c1 ?c2 ?c3 ?c4 ?c5 ?c8 ?c6 ?c7 ?_))
   case c1=>
    refine World.news_of_block (t:=34) (fr:=(0,0)) (cs:= #[.int .i64 np,.int .i64 na,.int .i64 nb]) ?_
    have h:=World.alloc_heap_new ((((X.setCell ⟨wr.heap.size,0,none⟩ (.int .i64 np)).alloc (.cells #[.int .i64 na,.int .i64 nb] 32)).setCell ⟨wr.heap.size,1,none⟩ (.int .i64 na)).setCell ⟨wr.heap.size,2,none⟩ (.int .i64 nb)) (.cells #[.int .i64 np,.int .i64 na,.int .i64 nb] 34);have e:((((X.setCell ⟨wr.heap.size,0,none⟩ (.int .i64 np)).alloc (.cells #[.int .i64 na,.int .i64 nb] 32)).setCell ⟨wr.heap.size,1,none⟩ (.int .i64 na)).setCell ⟨wr.heap.size,2,none⟩ (.int .i64 nb)).heap.size=X.heap.size+1:=by simp [World.setCell,World.alloc]
    rw [e] at h;exact h
   case c2=>intro u hu;simp only [aT,List.not_mem_nil,or_false] at hu;rcases hu with rfl|rfl|rfl<;>rfl
   case c3=>unfold maxLen;omega
   case c4=>omega
   case c5=>
    have h1:=HO.out.2.2.1.size;have h2:=HY.out.size;show w2.heap.size<=(World.alloc _ _).heap.size;rw [World.size_alloc];omega
   case c8=>exact (HO.out.2.1.keep λg hg=>HY.out.block g (HO.out.1.lt g hg).2).alloc _
   case c6=>intro u hu;simp only [aT,List.not_mem_nil,or_false] at hu;rcases hu with rfl|rfl|rfl<;>rfl
   case c7=>intro u hu;simp [Value.cells] at hu;subst hu;rfl
   intro v' wq g1 g2 g3 g4;have am7:Below w2.heap.size w2 wq:=HO.out.2.2.1.trans ((((HY.out.alloc (by have :=HY.out.size;omega) (.cells #[.int .i64 np,.int .i64 na,.int .i64 nb] 34)).drew).mono HO.out.2.2.1.size).grown g2 (by have h1:=HO.out.2.2.1.size;have h2:=HY.out.size;show w2.heap.size<=(World.alloc _ _).heap.size;rw [World.size_alloc];omega) (λj hj=>(HO.out.1.lt j hj).1))
   have hco:lU (fC cs b16 (k+1))=lU (fC cs b16 k)++ [.int .i64 np,.int .i64 na,.int .i64 nb]:=by
    rw [HO.out.2.2.2,Fz,HN.out,HNA.out.1,HNA.out.2.1];rfl
   have HQ:=Lib.hid (au g1 (au g4 (au am7 hco)));clear g1 g2 g3 g4 am7 hco;go_wp2;go_roundw
   case rel=>exact ⟨k+1,by omega,by go_num,by rw [HQ.out.2.2.2];exact HQ.out.1,HQ.out.2.1,HQ.out.2.2.1⟩
   case measure=>simp [intOf];omega
  ·obtain rfl:k=cs.length:=by omega
   obtain ⟨A3,c3,rfl, -,hr3⟩:=ownsRow.rd (B:=wr.heap.size) (f:=cutAt (fC cs b16 cs.length)) hown (λi j hi hj=>wS _ i j (by rw [eY];exact hi) hj);have QN:=hr3 _ (aj _) (aj _);have HO:=Lib.hid (au hown (au hpl (au hb QN)));clear hown hpl hb hr3 QN
   rename ∀(a:Act) (w:World),Code.wp _ _ _ a w->_=>HK1
   have HK2:=Lib.hid HK1;clear HK1;go_wp2;refine HK2.out _ _ ?_
   clear HK2;refine UU λK HK=>?_
   have hws:w.heap.size<w2.heap.size:=by omega
   have hwr:w2.heap.size<=wr.heap.size:=HO.out.2.2.1.size;have hwb:Below w.heap.size w wr:=HW.out.1.trans (HO.out.2.2.1.mono (by omega));have hbx:wr.heap[w.heap.size]?=some (.cells #[.int .i64 p,.int .i64 a,.int .i64 b] 34):=(HO.out.2.2.1.block _ hws).trans HW.out.2
   have x0:=jE hbx 0;have x1:=jE hbx 1;have x2:=jE hbx 2;simp only [List.getElem?_toArray,List.getElem?_cons_zero,List.getElem?_cons_succ] at x0 x1 x2;have HB:=Lib.hid (au hbx hwb);clear hbx hwb;have Yh:(fC cs b16 cs.length++([]:List (Int×Int×Int))).length=cs.length:=by rw [List.append_nil,eY]
   have hlen1:(fC cs b16 cs.length++ [(p,a,b)]).length=cs.length+1:=by rw [List.length_append,eY];rfl
   by_cases hc4:cs.length<4
   ·have at0:(cs.length:Int)<4:=by omega
    obtain ⟨cx,hcx⟩:∃cx,cK [] [(p,a,b)] 0=cx:=⟨_,rfl⟩
    have hrd:IJ (wr.alloc (.cells #[.int .i64 p,.int .i64 a,.int .i64 b] 34)) (wr.heap.size+1) (some ⟨wr.heap.size,0,none⟩) [(p,a,b)]:= λ_=>by
     refine ⟨_,_,rfl,Nat.lt_succ_self _, λi j hi hj=>?_⟩;have hi0:i=0:=by simp at hi;exact hi
     subst hi0;have hc:=jE (World.alloc_heap_new wr (.cells #[.int .i64 p,.int .i64 a,.int .i64 b] 34));rcases j with _|_|_|j
     ·exact hc 0
     ·exact hc 1
     ·exact hc 2
     ·omega
    have HC:=Lib.hid (au hcx hrd);have M0:=Lib.hid trivial;clear hrd
    by_cases h0:cx=0
    ·subst h0;have hbad:eF (p,a,b)=false:=(UR hcx).cut _ (aB.2 rfl);have HD:=Lib.hid hbad;clear hcx hbad
     go_wp2_with (first
      |(have t:=M0;clear M0 t;go_at_call 9;refine (Lo.Je (lots:=[]) (cs:=[(p,a,b)]) (B:=wr.heap.size+1) (λh=>absurd h (by simp)) HC.out.2 (by show (0:Nat)<=64;omega) (by show (1:Nat)<=64;omega) (by rw [World.size_alloc];exact aj _) _).mono ?_;rintro e w3 ⟨rfl,hb3⟩;rw [HC.out.1];have aw4:=hb3.size;have Xi:=(hb3.block w.heap.size (by rw [World.size_alloc];omega)).trans ((Below.heap_alloc wr _ _ (by omega)).trans HB.out.1);have y0:=jE Xi 0;have y1:=jE Xi 1;have y2:=jE Xi 2;simp only [List.getElem?_toArray,List.getElem?_cons_zero,List.getElem?_cons_succ] at y0 y1 y2;have H3:=Lib.hid (((Below.refl _ wr).alloc (aj _) _).trans (hb3.mono (by rw [World.size_alloc];omega)));clear hb3 Xi)
      |(at_builtin;refine Par.dP rfl _ _ 23 rfl w2.heap.size 34 i0 (.agg #[.int .i64 0,.int .i64 0,.int .i64 0]) 3 24 Lo.Yg hi hz0 hz1' hz2' rfl (by decide) _ cs.length _ rfl ((ownsRow.below HO.out.1 H3.out).alloc _) ⟨w3.heap.size,0,none⟩ 1 1 [.int .i64 p,.int .i64 a,.int .i64 b] rfl rfl ?c1 ?c2 ?c3 ?c4 ?c5 ?c8 ?c6 ?c7 ?_))
     case c1=>
      refine World.news_of_block (t:=34) (fr:=(0,0)) (cs:= #[.int .i64 p,.int .i64 a,.int .i64 b]) ?_
      exact World.alloc_heap_new _ _
     case c2=>intro u hu;simp only [aT,List.not_mem_nil,or_false] at hu;rcases hu with rfl|rfl|rfl<;>rfl
     case c3=>unfold maxLen;omega
     case c4=>omega
     case c5=>
      have h2:=H3.out.size;show w2.heap.size<=(World.alloc _ _).heap.size;rw [World.size_alloc];omega
     case c8=>exact (HO.out.2.1.keep λg hg=>H3.out.block g (HO.out.1.lt g hg).2).alloc _
     case c6=>intro u hu;simp only [aT,List.not_mem_nil,or_false] at hu;rcases hu with rfl|rfl|rfl<;>rfl
     case c7=>intro u hu;simp [Value.cells] at hu;subst hu;rfl
     intro v' wq g1 g2 g3 g4;have hbq:Below w2.heap.size wr wq:=((H3.out.mono hwr).alloc (by have :=H3.out.size;omega) (.cells #[.int .i64 p,.int .i64 a,.int .i64 b] 34)).grown g2 (by have h2:=H3.out.size;show w2.heap.size<=(World.alloc _ _).heap.size;rw [World.size_alloc];omega) (λj hj=>(HO.out.1.lt j hj).1);have am8:Below w.heap.size w wq:=HB.out.2.trans (hbq.mono (by omega))
     obtain ⟨A4,c4,rfl, -,hr4⟩:=ownsRow.rd (B:=wq.heap.size) (f:=cutAt (fC cs b16 cs.length++ [(p,a,b)])) g1 (λi j hi hj=>by
      have hcc:=wS (fC cs b16 cs.length++ [(p,a,b)]) i j (by rw [hlen1];exact hi) hj;rw [Fz] at hcc;exact hcc)
     have am9:IJ wq wq.heap.size A4 (fC cs b16 cs.length++ [(p,a,b)]):=by
      have :=hr4 _ (aj _) (aj _);rw [<-hlen1] at this;exact this
     have HF:=Lib.hid (au am8 am9);clear g1 g2 g3 g4 hbq am8 hr4 am9;go_wp2;refine HK.out _ _ ?_
     have h:=@Lo.FC _ wq B lots cs [(p,a,b)] (fC cs b16 cs.length++ [(p,a,b)]) A1 A4 c1 c4 who limit b16 lot hours found H5.out (HR.out.1.keep λx o h=>bV HF.out.1 x o (by omega)) (aC hB HF.out.1.size) hcap rfl HF.out.2 HZ.out.2 ⟨hb1,hb2⟩ ⟨hl1,hl2⟩ (.inr ⟨_,rfl,HD.out,hc4⟩) H2.out.2;rw [hlen1] at h;simp only [Try.E14,Try.Bv,Try.f4,Try.bP,Try.cu,Option.getD_some,Nat.reduceEqDiff,if_true,if_false,reduceIte] at h;exact h _ _ _ _ _ _ _ _ _ _ _ _ _ _ _ _ _ _ _ _ _ _ _ _ _ _ _ _ _ _ _ _ _ _ _ _ _ _ _ _ _ _ _ _ _ _ _ _ _ _ _ _ _ _ _ _ _ _ _ _ _ _ _ _ _ _ _ _ _ _ _ _ _ _ _ _ _ _ _ _ _ _ _ _ _ _ _ _ _ _ _ _ _ _ _ _ _ _ _ _ _ _ _ _ _ _ _ _ _ _ _ _ _ _ _ _ _ _ _ _ _ _ _ _ _ _ _ _ _ _ _ _ _ _ _ _ _ _ _ _ _ _ _ _ _ _ _ _ _ _ _
    ·have HD:=Lib.hid h0;have hne:¬cx=0:=h0
     go_wp2_with (first
      |(have t:=M0;clear M0 t;go_at_call 9;refine (Lo.Je (lots:=[]) (cs:=[(p,a,b)]) (B:=wr.heap.size+1) (λh=>absurd h (by simp)) HC.out.2 (by show (0:Nat)<=64;omega) (by show (1:Nat)<=64;omega) (by rw [World.size_alloc];exact aj _) _).mono ?_;rintro e w3 ⟨rfl,hb3⟩;rw [HC.out.1];have H3:=Lib.hid (((Below.refl _ wr).alloc (aj _) _).trans (hb3.mono (by rw [World.size_alloc];omega)));clear hb3))
     have an0:Below w.heap.size w w3:=HB.out.2.trans (H3.out.mono (by omega))
     have QN:IJ w3 w3.heap.size A3 (fC cs b16 cs.length++ []):=by
      rw [List.append_nil];refine λhn=>?_
      obtain ⟨b3,o3,e3,hb3,hc3⟩:=HO.out.2.2.2 (by rw [eY] at hn;exact hn);exact ⟨b3,o3,e3,ak hb3 H3.out.size, λi j hi hj=>(bV H3.out b3 _ hb3).trans (hc3 i j (by rw [eY] at hi;exact hi) hj)⟩
     refine HK.out _ _ ?_
     have h:=@Lo.FC _ w3 B lots cs [] (fC cs b16 cs.length++ []) A1 A3 c1 c3 who limit b16 lot hours found H5.out (HR.out.1.keep λx o h=>bV an0 x o (by omega)) (aC hB an0.size) hcap rfl QN HZ.out.2 ⟨hb1,hb2⟩ ⟨hl1,hl2⟩ (.inl rfl) H2.out.2;rw [Yh] at h;simp only [Try.E14,Try.Bv,Try.f4,Try.bP,Try.cu,Option.getD_some,Nat.reduceEqDiff,if_true,if_false,reduceIte] at h;exact h _ _ _ _ _ _ _ _ _ _ _ _ _ _ _ _ _ _ _ _ _ _ _ _ _ _ _ _ _ _ _ _ _ _ _ _ _ _ _ _ _ _ _ _ _ _ _ _ _ _ _ _ _ _ _ _ _ _ _ _ _ _ _ _ _ _ _ _ _ _ _ _ _ _ _ _ _ _ _ _ _ _ _ _ _ _ _ _ _ _ _ _ _ _ _ _ _ _ _ _ _ _ _ _ _ _ _ _ _ _ _ _ _ _ _ _ _ _ _ _ _ _ _ _ _ _ _ _ _ _ _ _ _ _ _ _ _ _ _ _ _ _ _ _ _ _ _ _ _ _ _
   ·have at0:¬(cs.length:Int)<4:=by omega
    go_wp2
    have QN:IJ wr wr.heap.size A3 (fC cs b16 cs.length++ []):=by
     rw [List.append_nil];intro hn;obtain ⟨b3,o3,e3,hb3,hc3⟩:=HO.out.2.2.2 (by rw [eY] at hn;exact hn);exact ⟨b3,o3,e3,hb3, λi j hi hj=>hc3 i j (by rw [eY] at hi;exact hi) hj⟩
    refine HK.out _ _ ?_
    have h:=@Lo.FC _ wr B lots cs [] (fC cs b16 cs.length++ []) A1 A3 c1 c3 who limit b16 lot hours found H5.out (HR.out.1.keep λx o h=>bV HB.out.2 x o (by omega)) (aC hB HB.out.2.size) hcap rfl QN HZ.out.2 ⟨hb1,hb2⟩ ⟨hl1,hl2⟩ (.inl rfl) H2.out.2;rw [Yh] at h;simp only [Try.E14,Try.Bv,Try.f4,Try.bP,Try.cu,Option.getD_some,Nat.reduceEqDiff,if_true,if_false,reduceIte] at h;exact h _ _ _ _ _ _ _ _ _ _ _ _ _ _ _ _ _ _ _ _ _ _ _ _ _ _ _ _ _ _ _ _ _ _ _ _ _ _ _ _ _ _ _ _ _ _ _ _ _ _ _ _ _ _ _ _ _ _ _ _ _ _ _ _ _ _ _ _ _ _ _ _ _ _ _ _ _ _ _ _ _ _ _ _ _ _ _ _ _ _ _ _ _ _ _ _ _ _ _ _ _ _ _ _ _ _ _ _ _ _ _ _ _ _ _ _ _ _ _ _ _ _ _ _ _ _ _ _ _ _ _ _ _ _ _ _ _ _ _ _ _ _ _ _ _ _ _ _ _ _ _
end Go.Proofs
end
