/- Part 13. -/
import Derived.Test.YtnemnkmojiljmaaF12
set_option maxRecDepth 100000
set_option maxHeartbeats 8000000
set_option linter.all false
section
namespace Go.Proofs
open Go Go.RowKit Go.Maps
variable [Lo.St]
theorem Lo.zw (n l h:Int) (w:World):Calls Lo.prog 24 #[.int .i64 n,.int .i64 l,.int .i64 h] w λe w'=>e= .returned (.bool (qg n l h))∧w=w':=by
 obtain ⟨U,U2,U3,U4,U5,U6⟩:=@Lo.facts inferInstance
 by_cases h1:l<=n
 ·by_cases h2:n<=h
  ·go_enter Lo.func24,Try.ntmps24;go_wp2;go_ret;exact ⟨by simp [qg,h1,h2],rfl⟩
  ·go_enter Lo.func24,Try.ntmps24;go_wp2;go_ret;exact ⟨by simp [qg,h1,h2],rfl⟩
 ·go_enter Lo.func24,Try.ntmps24;go_wp2;go_ret;exact ⟨by simp [qg,h1];intro h;omega,rfl⟩
theorem Lo.Dq (a b l h:Int) (w:World):Calls Lo.prog 25 #[.agg #[.int .i64 a,.int .i64 b],.int .i64 l,.int .i64 h] w λe w'=>e= .returned (.bool (dQ a b l h))∧Below w.heap.size w w':=by
 obtain ⟨U,U2,U3,U4,U5,U6⟩:=@Lo.facts inferInstance
 by_cases h1:l<=a
 ·by_cases h2:a<=b
  ·by_cases h3:b<=h
   ·go_enter Lo.func25,Try.ntmps25;go_wp2;go_ret;exact ⟨by simp [dQ,h1,h2,h3],(Below.refl _ _).alloc (aj _) _⟩
   ·go_enter Lo.func25,Try.ntmps25;go_wp2;go_ret;exact ⟨by simp [dQ,h1,h2,h3],(Below.refl _ _).alloc (aj _) _⟩
  ·go_enter Lo.func25,Try.ntmps25;go_wp2;go_ret;exact ⟨by simp [dQ,h1,h2];intro h;omega,(Below.refl _ _).alloc (aj _) _⟩
 ·go_enter Lo.func25,Try.ntmps25;go_wp2;go_ret;exact ⟨by simp [dQ,h1];intro h;omega,(Below.refl _ _).alloc (aj _) _⟩
theorem JZ {α:Type} (f:α->Bool) (l:List α) (k:Nat) (h:k<l.length):(l.drop k).any f=(f l[k]||(l.drop (k+1)).any f):=by
 rw [aG h];rfl
theorem Lo.Sd {w:World} {B:Nat} {lots:List (Int×Int)} {cs:List (Int×Int×Int)} {A1 A2:Option Addr} {c1 c2:Nat} (h1:Lc w B A1 lots) (h2:Ld w B A2 cs) (hl1:lots.length<=64) (hl2:cs.length<=64) (hB:B<=w.heap.size) (limit:Int):
 Calls Lo.prog 9 #[.slice A1 lots.length c1,.slice A2 cs.length c2,.int .i64 limit] w λe w'=>e= .returned (.int .i64 (cO lots cs limit))∧Below w.heap.size w w':=by
 obtain ⟨U,U2,U3,U4,U5,U6⟩:=@Lo.facts inferInstance;have C:=(@Lo.call24 inferInstance);have C2:=(@Lo.call25 inferInstance)
 by_cases q1:6<lots.length
 ·have d1:(6:Int)<(lots.length:Int):=by omega
  have H:=Lib.hid q1;clear q1;go_enter Lo.func9,Try.ntmps9;go_wp2;go_ret;exact ⟨by unfold cO;rw [if_pos H.out];rfl,Below.refl _ _⟩
 have d1:¬(6:Int)<(lots.length:Int):=by omega
 have H1:=Lib.hid q1;clear q1;cases q2:qg cs.length 1 4 with
 |false=>
  have H:=Lib.hid q2;clear q2;go_enter Lo.func9,Try.ntmps9
  go_wp2_with (go_at_call 24;refine (Lo.zw _ _ _ _).mono ?_;rintro e w1 ⟨rfl,rfl⟩;rw [H.out])
  go_ret;exact ⟨by unfold cO;rw [if_neg H1.out,if_pos H.out];rfl,Below.refl _ _⟩
 |true=>
  have H2:=Lib.hid q2;clear q2;obtain ⟨F,hF⟩:∃F,cO lots cs limit=F:=⟨_,rfl⟩;have hF2:=hF;unfold cO at hF2;rw [if_neg H1.out,if_neg (by rw [H2.out];simp)] at hF2;rw [hF];have HF:=Lib.hid hF2;clear hF2 hF;have HR:=Lib.hid (au h1 h2);clear h1 h2;go_enter Lo.func9,Try.ntmps9
  go_wp2_with (go_at_call 24;refine (Lo.zw _ _ _ _).mono ?_;rintro e w1 ⟨rfl,rfl⟩;rw [H2.out])
  go_loopw [7] (λi wr=>∃k:Nat,k<=lots.length∧i= .int .i64 (k:Int)∧(lots.drop k).any jc=lots.any jc∧Below w.heap.size w wr) (λi _=>lots.length - (intOf i).toNat)
  case atStart=>exact ⟨0,aL _,rfl,rfl,Below.refl _ _⟩
  case round=>
   obtain ⟨k,hk,rfl,hany,hb⟩:=hrel
   by_cases hlt:k<lots.length
   ·have hlt':(k:Int)<(lots.length:Int):=by omega
    obtain ⟨bb,off,rfl,hbb,hc⟩:=HR.out.1 (by omega);have r1:=(bV hb bb _ (by omega)).trans (Em hc hlt).1;have r2:=(bV hb bb _ (by omega)).trans (Em hc hlt).2;rw [JZ jc lots k hlt] at hany;have hbad:jc lots[k]=!dQ lots[k].1 lots[k].2 0 1000000:=rfl;rw [hbad] at hany;generalize lots[k].1=x at r1 hany;generalize lots[k].2=y at r2 hany;cases hi:dQ x y 0 1000000 with
    |false=>
     rw [hi] at hany;have HI:=Lib.hid (au hi (au hany hb));clear hi hany hb hbad
     go_wp2_with (go_at_call 25;refine (Lo.Dq _ _ _ _ _).mono ?_;rintro e w1 ⟨rfl,hb1⟩;rw [HI.out.1];have HB1:=Lib.hid hb1;clear hb1)
     go_ret;refine ⟨?_,HI.out.2.2.trans (HB1.out.mono HI.out.2.2.size)⟩;rw [<-HF.out,if_pos (HI.out.2.1.symm.trans (by simp))];rfl
    |true=>
     rw [hi] at hany;have HI:=Lib.hid (au hi (au hany hb));clear hi hany hb hbad
     go_wp2_with (go_at_call 25;refine (Lo.Dq _ _ _ _ _).mono ?_;rintro e w1 ⟨rfl,hb1⟩;rw [HI.out.1];have HB1:=Lib.hid hb1;clear hb1)
     go_roundw
     case rel=>exact ⟨k+1,by omega,by go_num,by simpa using HI.out.2.1,HI.out.2.2.trans (HB1.out.mono HI.out.2.2.size)⟩
     case measure=>simp [intOf];omega
   ·obtain rfl:k=lots.length:=by omega
    rw [List.drop_length] at hany;have J2:lots.any jc=false:=hany.symm;have HB:=Lib.hid (au hb J2);clear hb hany J2;go_wp2
    go_loopw [8] (λi wq=>∃k:Nat,k<=cs.length∧i= .int .i64 (k:Int)∧(cs.drop k).any iN=cs.any iN∧Below w.heap.size w wq) (λi _=>cs.length - (intOf i).toNat)
    case atStart=>exact ⟨0,aL _,rfl,rfl,HB.out.1⟩
    case round=>
     obtain ⟨k,hk,rfl,hany,hb⟩:=hrel
     by_cases hlt:k<cs.length
     ·have hlt':(k:Int)<(cs.length:Int):=by omega
      obtain ⟨bb,off,rfl,hbb,hc⟩:=HR.out.2 (by omega);have r1:=(bV hb bb _ (by omega)).trans (vY hc hlt).1;have r2:=(bV hb bb _ (by omega)).trans (vY hc hlt).2.1;have r3:=(bV hb bb _ (by omega)).trans (vY hc hlt).2.2;rw [JZ iN cs k hlt] at hany;have hbad:iN cs[k]=!(qg cs[k].1 1 1000000&&dQ cs[k].2.1 cs[k].2.2 0 1000):=rfl;rw [hbad] at hany;generalize cs[k].1=p at r1 hany;generalize cs[k].2.1=x at r2 hany;generalize cs[k].2.2=y at r3 hany;cases hi:qg p 1 1000000 with
      |false=>
       rw [hi] at hany;have HI:=Lib.hid (au hi (au hany hb));clear hi hany hb hbad
       go_wp2_with (go_at_call 24;refine (Lo.zw _ _ _ _).mono ?_;rintro e w1 ⟨rfl,rfl⟩;rw [HI.out.1])
       go_ret;refine ⟨?_,HI.out.2.2⟩;rw [<-HF.out,if_neg (by rw [HB.out.2];simp),if_pos (HI.out.2.1.symm.trans (by simp))];rfl
      |true=>
       cases hj:dQ x y 0 1000 with
       |false=>
        rw [hi,hj] at hany;have HI:=Lib.hid (au hi (au hany (au hb hj)));clear hi hany hb hbad hj
        go_wp2_with (first
         |(go_at_call 24;refine (Lo.zw _ _ _ _).mono ?_;rintro e w1 ⟨rfl,rfl⟩;rw [HI.out.1])
         |(go_at_call 25;refine (Lo.Dq _ _ _ _ _).mono ?_;rintro e w1 ⟨rfl,hb1⟩;rw [HI.out.2.2.2];have HB1:=Lib.hid hb1;clear hb1))
        go_ret;refine ⟨?_,HI.out.2.2.1.trans (HB1.out.mono HI.out.2.2.1.size)⟩;rw [<-HF.out,if_neg (by rw [HB.out.2];simp),if_pos (HI.out.2.1.symm.trans (by simp))];rfl
       |true=>
        rw [hi,hj] at hany;have HI:=Lib.hid (au hi (au hany (au hb hj)));clear hi hany hb hbad hj
        go_wp2_with (first
         |(go_at_call 24;refine (Lo.zw _ _ _ _).mono ?_;rintro e w1 ⟨rfl,rfl⟩;rw [HI.out.1])
         |(go_at_call 25;refine (Lo.Dq _ _ _ _ _).mono ?_;rintro e w1 ⟨rfl,hb1⟩;rw [HI.out.2.2.2];have HB1:=Lib.hid hb1;clear hb1))
        go_roundw
        case rel=>exact ⟨k+1,by omega,by go_num,by simpa using HI.out.2.1,HI.out.2.2.1.trans (HB1.out.mono HI.out.2.2.1.size)⟩
        case measure=>simp [intOf];omega
     ·obtain rfl:k=cs.length:=by omega
      rw [List.drop_length] at hany;have J2:cs.any iN=false:=hany.symm;have HC:=Lib.hid (au hb J2);clear hb hany J2;cases hq:qg limit 0 1000000 with
      |false=>
       have HQ:=Lib.hid hq;clear hq
       go_wp2_with (go_at_call 24;refine (Lo.zw _ _ _ _).mono ?_;rintro e w1 ⟨rfl,rfl⟩;rw [HQ.out])
       go_ret;refine ⟨?_,HC.out.1⟩;rw [<-HF.out,if_neg (by rw [HB.out.2];simp),if_neg (by rw [HC.out.2];simp),if_pos HQ.out];rfl
      |true=>
       have HQ:=Lib.hid hq;clear hq
       go_wp2_with (go_at_call 24;refine (Lo.zw _ _ _ _).mono ?_;rintro e w1 ⟨rfl,rfl⟩;rw [HQ.out])
       go_ret;refine ⟨?_,HC.out.1⟩;rw [<-HF.out,if_neg (by rw [HB.out.2];simp),if_neg (by rw [HC.out.2];simp),if_neg (by rw [HQ.out];simp)];rfl
end Go.Proofs
end
section
namespace Go.Proofs
open Go Go.RowKit Go.Maps
def wo (l:List (Int×Int×Int)):List Value:=l.flatMap λx=>[.int .i64 x.1,.int .i64 x.2.1,.int .i64 x.2.2]
def xK (l:List (Int×Int)):List Value:=l.flatMap λx=>[.int .i64 x.1,.int .i64 x.2]
theorem Md (l:List (Int×Int×Int)):(wo l).length=l.length*3:=by
 induction l with
 |nil=>rfl
 |cons x l ih=>simp only [wo,List.flatMap_cons] at *;simp [ih];omega
theorem Me (l:List (Int×Int)):(xK l).length=l.length*2:=by
 induction l with
 |nil=>rfl
 |cons x l ih=>simp only [xK,List.flatMap_cons] at *;simp [ih];omega
theorem Et (l:List (Int×Int×Int)) (i j:Nat) (hi:i<l.length) (hj:j<3):(wo l)[i*3+j]?=some (cutAt l i j):=by
 induction l generalizing i with
 |nil=>simp at hi
 |cons x l ih=>
  cases i with
  |zero=>
   obtain rfl|rfl|rfl:j=0∨j=1∨j=2:=by omega
   all_goals rfl
  |succ i=>
   have :=ih i (by simpa using hi);rw [show (i+1)*3+j=(i*3+j)+3 by omega];show (wo l)[i*3+j]?=_
   rw [this];unfold cutAt;rfl
theorem Eu (l:List (Int×Int)) (i j:Nat) (hi:i<l.length) (hj:j<2):(xK l)[i*2+j]?=some (CB l i j):=by
 induction l generalizing i with
 |nil=>simp at hi
 |cons x l ih=>
  cases i with
  |zero=>
   obtain rfl|rfl:j=0∨j=1:=by omega
   all_goals rfl
  |succ i=>
   have :=ih i (by simpa using hi);rw [show (i+1)*2+j=(i*2+j)+2 by omega];show (xK l)[i*2+j]?=_
   rw [this];unfold CB;rfl
theorem Mf {l:List (Int×Int)} {u:Value} (h:u∈xK l):∃x,u= .int .i64 x:=by
 obtain ⟨y,_,h⟩:=List.mem_flatMap.1 h;simp only [aT,List.not_mem_nil,or_false] at h;rcases h with rfl|rfl<;>exact ⟨_,rfl⟩
variable [Lo.St]
theorem any_false {α:Type} {f:α->Bool} {l:List α} (h:∀x∈l,f x=false):l.any f=false:=by
 rw [List.any_eq_false];exact λx hx=>by rw [h x hx];simp
structure CkS (lots:List (Int×Int)) (cs:List (Int×Int×Int)) (limit:Int):Prop where
 nl:lots.length<=6
 nc:1<=cs.length∧cs.length<=4
 lot:∀x∈lots,jc x=false
 cut:∀x∈cs,iN x=false
 lim:0<=limit∧limit<=1000000
theorem CkS.zero {lots:List (Int×Int)} {cs:List (Int×Int×Int)} {limit:Int} (h:CkS lots cs limit):cO lots cs limit=0:=by
 have b1:qg cs.length 1 4=true:=by unfold qg;have :=h.nc;simp;omega
 have b2:qg limit 0 1000000=true:=by unfold qg;have :=h.lim;simp;omega
 unfold cO;rw [if_neg (by have :=h.nl;omega),if_neg (by rw [b1];simp),if_neg (by rw [any_false h.lot];simp),if_neg (by rw [any_false h.cut];simp),if_neg (by rw [b2];simp)]
end Go.Proofs
end
