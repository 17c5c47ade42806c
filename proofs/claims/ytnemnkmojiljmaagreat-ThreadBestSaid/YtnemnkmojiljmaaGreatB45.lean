/- Part 45. -/
import Derived.Test.YtnemnkmojiljmaaGreatB12
import Derived.Test.YtnemnkmojiljmaaGreatB13
import Derived.Test.YtnemnkmojiljmaaGreatB19
set_option maxRecDepth 100000
set_option maxHeartbeats 0
set_option linter.all false
namespace Go.Proofs
open Go Go.RowKit Go.Maps
section
variable [Lo.St]
theorem Lo.Bv (n l h:Int) (w:World):Calls Lo.prog 54 #[.int .i64 n,.int .i64 l,.int .i64 h] w λe w'=>e= .returned (.bool (rO n l h))∧w=w':=by
 obtain ⟨U,U2,U3,U4,U5,U6⟩:=Lo.facts
 by_cases h1:l<=n
 ·by_cases h2:n<=h
  ·go_enter Lo.func54,Tryz.ntmps54;go_wp2;go_ret;exact ⟨by simp [rO,h1,h2],rfl⟩
  ·go_enter Lo.func54,Tryz.ntmps54;go_wp2;go_ret;exact ⟨by simp [rO,h1,h2],rfl⟩
 ·go_enter Lo.func54,Tryz.ntmps54;go_wp2;go_ret;exact ⟨by simp [rO,h1];intro h;omega,rfl⟩
theorem Lo.EL (a b l h:Int) (w:World):Calls Lo.prog 55 #[.agg #[.int .i64 a,.int .i64 b],.int .i64 l,.int .i64 h] w λe w'=>e= .returned (.bool (fO a b l h))∧Below w.heap.size w w':=by
 obtain ⟨U,U2,U3,U4,U5,U6⟩:=Lo.facts
 by_cases h1:l<=a
 ·by_cases h2:a<=b
  ·by_cases h3:b<=h
   ·go_enter Lo.func55,Tryz.ntmps55;go_wp2;go_ret;exact ⟨by simp [fO,h1,h2,h3],(di _ _).alloc (aJ _) _⟩
   ·go_enter Lo.func55,Tryz.ntmps55;go_wp2;go_ret;exact ⟨by simp [fO,h1,h2,h3],(di _ _).alloc (aJ _) _⟩
  ·go_enter Lo.func55,Tryz.ntmps55;go_wp2;go_ret;exact ⟨by simp [fO,h1,h2];intro h;omega,(di _ _).alloc (aJ _) _⟩
 ·go_enter Lo.func55,Tryz.ntmps55;go_wp2;go_ret;exact ⟨by simp [fO,h1];intro h;omega,(di _ _).alloc (aJ _) _⟩
theorem Mw {α:Type} (f:α->Bool) (l:List α) (k:Nat) (h:k<l.length):(l.drop k).any f=(f l[k]||(l.drop (k+1)).any f):=by
 rw [aW h];rfl
theorem Lo.VF {w:World} {B:Nat} {dK:List (Int×Int)} {cs:List (Int×Int×Int)} {A1 A2:Option Addr} {c1 c2:Nat} (h1:RS w B A1 dK) (h2:RU w B A2 cs) (hl1:dK.length<=64) (hl2:cs.length<=64) (hB:B<=w.heap.size) (limit:Int):
 Calls Lo.prog 34 #[.slice A1 dK.length c1,.slice A2 cs.length c2,.int .i64 limit] w λe w'=>e= .returned (.int .i64 (eU dK cs limit))∧Below w.heap.size w w':=by
 obtain ⟨U,U2,U3,U4,U5,U6⟩:=Lo.facts;have C:=Lo.call54;have C2:=Lo.call55
 by_cases q1:6<dK.length
 ·have d1:(6:Int)<(dK.length:Int):=by omega
  have H:=dw q1;clear q1;go_enter Lo.func34,Tryz.ntmps34;go_wp2;go_ret;exact ⟨by unfold eU;rw [aj H.out];rfl,di _ _⟩
 have d1:¬(6:Int)<(dK.length:Int):=by omega
 have H1:=dw q1;clear q1;cases q2:rO cs.length 1 4 with
 |false=>
  have H:=dw q2;clear q2;go_enter Lo.func34,Tryz.ntmps34
  go_wp2_with (go_at_call 54;refine (Lo.Bv _ _ _ _).mono ?_;rintro e w1 ⟨rfl,rfl⟩;rw [H.out])
  go_ret;exact ⟨by unfold eU;rw [aa H1.out,aj H.out];rfl,di _ _⟩
 |true=>
  have H2:=dw q2;clear q2;obtain ⟨F,hF⟩:∃F,eU dK cs limit=F:=⟨_,rfl⟩;have hF2:=hF;unfold eU at hF2;rw [aa H1.out,aa (by rw [H2.out];simp)] at hF2;rw [hF];have HF:=dw hF2;clear hF2 hF;have HR:=dw (aM h1 h2);clear h1 h2;go_enter Lo.func34,Tryz.ntmps34
  go_wp2_with (go_at_call 54;refine (Lo.Bv _ _ _ _).mono ?_;rintro e w1 ⟨rfl,rfl⟩;rw [H2.out])
  go_loopw [7] (λi wr=>∃k:Nat,k<=dK.length∧i= .int .i64 (k:Int)∧(dK.drop k).any kD=dK.any kD∧Below w.heap.size w wr) (λi _=>dK.length - (intOf i).toNat)
  case atStart=>exact ⟨0,bn _,rfl,rfl,di _ _⟩
  case round=>
   obtain ⟨k,hk,rfl,oo,hb⟩:=hrel
   by_cases hlt:k<dK.length
   ·have hlt':(k:Int)<(dK.length:Int):=by omega
    obtain ⟨bb,off,rfl,hbb,hc⟩:=HR.out.1 (by omega);have r1:=(dU hb bb _ (by omega)).trans (FH hc hlt).1;have r2:=(dU hb bb _ (by omega)).trans (FH hc hlt).2;rw [Mw kD dK k hlt] at oo;have hbad:kD dK[k]=!fO dK[k].1 dK[k].2 0 1000000:=rfl;rw [hbad] at oo;generalize dK[k].1=x at r1 oo;generalize dK[k].2=y at r2 oo;cases hi:fO x y 0 1000000 with
    |false=>
     rw [hi] at oo;have HI:=dw (aM hi (aM oo hb));clear hi oo hb hbad
     go_wp2_with (go_at_call 55;refine (Lo.EL _ _ _ _ _).mono ?_;rintro e w1 ⟨rfl,hb1⟩;rw [HI.out.1];have HB1:=dw hb1;clear hb1)
     go_ret;refine ⟨?_,HI.out.2.2.trans (HB1.out.mono HI.out.2.2.size)⟩;rw [<-HF.out,aj (HI.out.2.1.symm.trans (by simp))];rfl
    |true=>
     rw [hi] at oo;have HI:=dw (aM hi (aM oo hb));clear hi oo hb hbad
     go_wp2_with (go_at_call 55;refine (Lo.EL _ _ _ _ _).mono ?_;rintro e w1 ⟨rfl,hb1⟩;rw [HI.out.1];have HB1:=dw hb1;clear hb1)
     go_roundw
     case rel=>exact ⟨k+1,by omega,by go_num,by simpa using HI.out.2.1,HI.out.2.2.trans (HB1.out.mono HI.out.2.2.size)⟩
     case measure=>simp [intOf];omega
   ·obtain rfl:k=dK.length:=by omega
    rw [aF] at oo;have Mx:dK.any kD=false:=oo.symm;have HB:=dw (aM hb Mx);clear hb oo Mx;go_wp2
    go_loopw [8] (λi wq=>∃k:Nat,k<=cs.length∧i= .int .i64 (k:Int)∧(cs.drop k).any jM=cs.any jM∧Below w.heap.size w wq) (λi _=>cs.length - (intOf i).toNat)
    case atStart=>exact ⟨0,bn _,rfl,rfl,HB.out.1⟩
    case round=>
     obtain ⟨k,hk,rfl,oo,hb⟩:=hrel
     by_cases hlt:k<cs.length
     ·have hlt':(k:Int)<(cs.length:Int):=by omega
      obtain ⟨bb,off,rfl,hbb,hc⟩:=HR.out.2 (by omega);have r1:=(dU hb bb _ (by omega)).trans (xJ hc hlt).1;have r2:=(dU hb bb _ (by omega)).trans (xJ hc hlt).2.1;have r3:=(dU hb bb _ (by omega)).trans (xJ hc hlt).2.2;rw [Mw jM cs k hlt] at oo;have hbad:jM cs[k]=!(rO cs[k].1 1 1000000&&fO cs[k].2.1 cs[k].2.2 0 1000):=rfl;rw [hbad] at oo;generalize cs[k].1=p at r1 oo;generalize cs[k].2.1=x at r2 oo;generalize cs[k].2.2=y at r3 oo;cases hi:rO p 1 1000000 with
      |false=>
       rw [hi] at oo;have HI:=dw (aM hi (aM oo hb));clear hi oo hb hbad
       go_wp2_with (go_at_call 54;refine (Lo.Bv _ _ _ _).mono ?_;rintro e w1 ⟨rfl,rfl⟩;rw [HI.out.1])
       go_ret;refine ⟨?_,HI.out.2.2⟩;rw [<-HF.out,aa (by rw [HB.out.2];simp),aj (HI.out.2.1.symm.trans (by simp))];rfl
      |true=>
       cases hj:fO x y 0 1000 with
       |false=>
        rw [hi,hj] at oo;have HI:=dw (aM hi (aM oo (aM hb hj)));clear hi oo hb hbad hj
        go_wp2_with (first
         |(go_at_call 54;refine (Lo.Bv _ _ _ _).mono ?_;rintro e w1 ⟨rfl,rfl⟩;rw [HI.out.1])
         |(go_at_call 55;refine (Lo.EL _ _ _ _ _).mono ?_;rintro e w1 ⟨rfl,hb1⟩;rw [HI.out.2.2.2];have HB1:=dw hb1;clear hb1))
        go_ret;refine ⟨?_,HI.out.2.2.1.trans (HB1.out.mono HI.out.2.2.1.size)⟩;rw [<-HF.out,aa (by rw [HB.out.2];simp),aj (HI.out.2.1.symm.trans (by simp))];rfl
       |true=>
        rw [hi,hj] at oo;have HI:=dw (aM hi (aM oo (aM hb hj)));clear hi oo hb hbad hj
        go_wp2_with (first
         |(go_at_call 54;refine (Lo.Bv _ _ _ _).mono ?_;rintro e w1 ⟨rfl,rfl⟩;rw [HI.out.1])
         |(go_at_call 55;refine (Lo.EL _ _ _ _ _).mono ?_;rintro e w1 ⟨rfl,hb1⟩;rw [HI.out.2.2.2];have HB1:=dw hb1;clear hb1))
        go_roundw
        case rel=>exact ⟨k+1,by omega,by go_num,by simpa using HI.out.2.1,HI.out.2.2.1.trans (HB1.out.mono HI.out.2.2.1.size)⟩
        case measure=>simp [intOf];omega
     ·obtain rfl:k=cs.length:=by omega
      rw [aF] at oo;have Mx:cs.any jM=false:=oo.symm;have HC:=dw (aM hb Mx);clear hb oo Mx;cases hq:rO limit 0 1000000 with
      |false=>
       have HQ:=dw hq;clear hq
       go_wp2_with (go_at_call 54;refine (Lo.Bv _ _ _ _).mono ?_;rintro e w1 ⟨rfl,rfl⟩;rw [HQ.out])
       go_ret;refine ⟨?_,HC.out.1⟩;rw [<-HF.out,aa (by rw [HB.out.2];simp),aa (by rw [HC.out.2];simp),aj HQ.out];rfl
      |true=>
       have HQ:=dw hq;clear hq
       go_wp2_with (go_at_call 54;refine (Lo.Bv _ _ _ _).mono ?_;rintro e w1 ⟨rfl,rfl⟩;rw [HQ.out])
       go_ret;refine ⟨?_,HC.out.1⟩;rw [<-HF.out,aa (by rw [HB.out.2];simp),aa (by rw [HC.out.2];simp),aa (by rw [HQ.out];simp)];rfl
end
section
variable [Lo.St]
theorem any_false {α:Type} {f:α->Bool} {l:List α} (h:∀x∈l,f x=false):l.any f=false:=by
 rw [List.any_eq_false];exact λx hx=>by rw [h x hx];simp
structure CkS (dK:List (Int×Int)) (cs:List (Int×Int×Int)) (limit:Int):Prop where
 nl:dK.length<=6
 nc:1<=cs.length∧cs.length<=4
 lot:∀x∈dK,kD x=false
 cut:∀x∈cs,jM x=false
 lim:0<=limit∧limit<=1000000
theorem CkS.zero {dK:List (Int×Int)} {cs:List (Int×Int×Int)} {limit:Int} (h:CkS dK cs limit):eU dK cs limit=0:=by
 have b1:rO cs.length 1 4=true:=by unfold rO;have :=h.nc;simp;omega
 have b2:rO limit 0 1000000=true:=by unfold rO;have :=h.lim;simp;omega
 unfold eU;rw [aa (by have :=h.nl;omega),aa (by rw [b1];simp),aa (by rw [any_false h.lot];simp),aa (by rw [any_false h.cut];simp),aa (by rw [b2];simp)]
end
section
variable [Lo.St]
theorem VG {P:Program} {q:FuncId} {fn:Func} (h:P.funcs[q]?=some fn) (c:Code):(P.stub q c).funcs[q]?=some { fn with body:=some c }:=by
 show (P.funcs.modify q _)[q]?=_
 rw [bB,aj rfl,h];rfl
theorem Lo.at5:Lo.prog.funcs[14]?=some { Tryz.f14 with body:=some Lo.St.c5 }:=by
 rw [Lo.jB];exact Par.uj _ _ _ (VG Tryz.func14 _) (by decide)
theorem Lo.call14 (args:Array Value) (w:World):Sem.run Lo.prog (callFunc 14 args) w= .ok (.enter 14 args) w:=by
 have hn:(Tryz.f14.name== "runtime.NumGoroutine")=false:=by kernel_rfl
 unfold callFunc;simp only [program,Bind.bind,Sem.bind,Sem.run,Lo.at5,hn];rfl
def VH [Lo.St]:Prop:=∀w:World,Calls Lo.prog 14 #[] w λe w'=>e= .returned (.bool true)∧w'=w
end
section
variable [Lo.St]
theorem G6 {X:World} {b:Nat} {c:Array Value} {e:TypeId} {fr:Nat×Nat} (h:X.heap[b]?=some (.cells c e fr)) (o:Nat):X.cell? ⟨b,o,none⟩=c[o]?:=by
 unfold World.cell?;simp only [h];cases c[o]?<;>rfl
end
end Go.Proofs
