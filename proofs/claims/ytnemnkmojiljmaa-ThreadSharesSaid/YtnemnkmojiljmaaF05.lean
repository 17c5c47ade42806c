/- Part 5. -/
import Derived.Laws.AppendOwn
import Derived.Maps.AppendAt
import Derived.StillTailTactics
import Derived.Laws.OwnMore
import Derived.BigRegion
import Derived.Test.YtnemnkmojiljmaaF03
import Derived.Test.YtnemnkmojiljmaaF04
set_option maxRecDepth 100000
set_option maxHeartbeats 8000000
set_option linter.all false
section
namespace Go.Proofs
open Go Go.RowKit
variable [Lo.St]
theorem Lo.DU:Lo.prog.underlying 25=some (.slice 3):=(Lo.underlying 25).trans (by kernel_rfl)
theorem Lo.info3:(Lo.prog.info? 3).map (λi=>(i.zero,i.size,i.bytes))=some (some (.int .i64 0),1,8):=by
 rw [Lo.info];kernel_rfl
def qA (set k:Nat):List Nat:=(List.range k).filter λi=>decide (bit set i=1)
theorem Cq (set k:Nat):qA set (k+1)=if bit set k=1 then qA set k++ [k] else qA set k:=by
 unfold qA;rw [List.range_succ,List.filter_append]
 by_cases h:bit set k=1<;>simp [h]
theorem DV (set k:Nat):(qA set k).length<=k:=by
 unfold qA;exact aC (List.length_filter_le _ _) (by simp)
def zb (l:List Nat):List Value:=l.map λn:Nat=>.int .i64 (n:Int)
def lS (set:Nat):List Nat:=qA set 16
theorem Cr (set k:Nat) (h:set / 2 ^ k=0):∀d,qA set (k+d)=qA set k
 |0=>rfl
 |d+1=>by
  rw [<-Nat.add_assoc,Cq,if_neg,Cr set k h d];unfold bit
  have :set / 2 ^ (k+d)=0:=by
   rw [Nat.pow_add, <-Nat.div_div_eq_div_mul,h,Nat.zero_div]
  rw [this];simp
theorem Lo.Ri (set:Nat) (hset:set<2 ^ 16) (w:World):
 Calls Lo.prog 39 #[.int .u64 (set:Int)] w λe w'=>∃v,e= .returned v∧w'.ownsRow w.heap.size 3 1 v (lS set).length (zb (lS set))∧Par.dh w' v∧Below w.heap.size w w':=by
 obtain ⟨U,U2,U3,U4,U5,U6⟩:=@Lo.facts inferInstance;obtain ⟨i0,hi,hz0,hz1,hz2⟩:=info_parts Lo.info3;go_enter Lo.func39,Try.ntmps39;go_wp2
 go_loopw [3,4] (λv i wr=>∃k:Nat,k<=16∧i= .int .i64 (k:Int)∧wr.ownsRow w.heap.size 3 1 v (qA set k).length (zb (qA set k))∧Par.dh wr v∧Below w.heap.size w wr) (λ_ i _=>16 - (intOf i).toNat)
 case atStart=>exact ⟨0,by omega,rfl,by simpa [qA,zb] using World.ownsRow_nil w w.heap.size 3 1,Par.dh.nil _,Below.refl _ _⟩
 case round=>
  obtain ⟨k,hk,rfl,hown,hpl,hb⟩:=hrel;have HP:=Lib.hid hpl;clear hpl;have hbl:bit set k<2:=Lj set k;have ab:=Ii set k (by omega);have ls:=Cq set k;have ll:=DV set k;have st:=Cr set k;generalize hq:set / 2 ^ k=q at st;have eq1:((set:Int) / 2 ^ k)=(q:Int):=by rw [<-hq];simp
  rw [eq1] at ab
  by_cases h0:q=0
  ·have hk2:lS set=qA set k:=by
    have :=st h0 (16 - k);rw [show k+(16 - k)=16 from by omega] at this;exact this
   have HK:=Lib.hid hk2;have HO:=Lib.hid hown;have HB:=Lib.hid hb;clear ab ls ll st hq hk2 hown hb;subst h0;go_wp2;go_ret;exact ⟨_,rfl,by rw [HK.out];exact HO.out,HP.out,HB.out⟩
  ·have au7:k<16:=by
    rcases aO k 16 with h|h
    ·exact h
    ·exfalso;obtain rfl:k=16:=by omega
     omega
   have d1:decide ((0:Int)<(q:Int))=true:=by simp;omega
   have Yq:=hb.size;clear hq st
   by_cases h1:bit set k=1
   ·rw [if_pos h1] at ls;rw [h1] at ab;have LS:=Lib.hid ls;have HB:=Lib.hid hb;have H1:=Lib.hid h1;clear ls hb h1 hbl
    go_wp2_with (first
     |(at_builtin;refine Par.eP rfl _ _ 25 rfl w.heap.size 3 i0 (.int .i64 0) 1 8 Lo.DU hi hz0 hz1 hz2 rfl (by decide) _ _ _ rfl (hown.alloc _) ⟨wr.heap.size,0,none⟩ 1 1 [.int .i64 (k:Int)] rfl rfl ?c1 ?c2 ?c3 ?c4 ?c5 (HP.out.alloc _) ?c6 ?c7 ?_)
     |go_in)
    case c1=>
     intro j u hj
     match j,hj with
     |0,hj=>simp at hj;subst hj;simp [Addr.add]
    case c2=>intro u hu;simp at hu;subst hu;rfl
    case c3=>unfold maxLen;omega
    case c4=>omega
    case c5=>simp;omega
    case c6=>intro u hu;simp at hu;subst hu;rfl
    case c7=>intro u hu;simp [Value.cells] at hu;subst hu;rfl
    intro v' w1 hown' hgrow _ hp';have Rj:=Lib.hid hp';clear hp';have R:=(HB.out.alloc Yq (.cells #[.int .i64 (k:Int)] 3)).grown hgrow (by simp;omega) (λj hj=>(hown.lt j hj).1);have RO:=Lib.hid hown';clear hown' hgrow hown;go_wp2;go_roundw
    case rel=>exact ⟨k+1,by omega,by go_num,by rw [LS.out];simpa [zb] using RO.out,Rj.out,R⟩
    case measure=>simp [intOf];omega
   ·obtain h0':bit set k=0:=by omega
    rw [if_neg h1] at ls;rw [h0'] at ab;have LS:=Lib.hid ls;have HB:=Lib.hid hb;clear ls hb h1 hbl h0';have HO:=Lib.hid hown;clear hown;go_wp2;go_roundw
    case rel=>exact ⟨k+1,by omega,by go_num,by rw [LS.out];exact HO.out,HP.out,HB.out⟩
    case measure=>simp [intOf];omega
end Go.Proofs
end
section
namespace Go.Proofs
open Go Go.RowKit
variable [Lo.St]
def ze (a b:Int):Int:=if a<b then -1 else if b<a then 1 else 0
theorem Lo.Il (a:Int) (w:World):Calls Lo.prog 56 #[.int .i64 a] w λe w'=>e= .returned (.bool false)∧w'=w:=by
 have U:=(@Lo.underlying inferInstance);have U2:=(@Lo.runUnderlying inferInstance);have d:decide (a=a)=true:=by simp
 go_enter Lo.func56,Try.ntmps56;go_wp2;go_ret;exact ⟨by simp,rfl⟩
theorem Lo.Im (a b:Int) (w:World):Calls Lo.prog 33 #[.int .i64 a,.int .i64 b] w λe w'=>e= .returned (.int .i64 (ze a b))∧w'=w:=by
 have U:=(@Lo.underlying inferInstance);have U2:=(@Lo.runUnderlying inferInstance);have C:=(@Lo.call56 inferInstance);unfold ze;rcases Int.lt_trichotomy a b with h|h|h
 ·rw [if_pos h];have d:decide (a<b)=true:=by simpa using h
  go_enter Lo.func33,Try.ntmps33
  go_wp2_with (go_at_call 56;refine (Lo.Il _ _).mono ?_;rintro e w1 ⟨rfl,rfl⟩)
  go_ret;exact ⟨rfl,rfl⟩
 ·subst h;rw [if_neg (Int.lt_irrefl _),if_neg (Int.lt_irrefl _)];have d:decide (a<a)=false:=by simp
  go_enter Lo.func33,Try.ntmps33
  go_wp2_with (go_at_call 56;refine (Lo.Il _ _).mono ?_;rintro e w1 ⟨rfl,rfl⟩)
  go_ret;exact ⟨rfl,rfl⟩
 ·rw [if_neg (by omega),if_pos h];have d:decide (a<b)=false:=by simp;omega
  have d2:decide (b<a)=true:=by simpa using h
  go_enter Lo.func33,Try.ntmps33
  go_wp2_with (go_at_call 56;refine (Lo.Il _ _).mono ?_;rintro e w1 ⟨rfl,rfl⟩)
  go_ret;exact ⟨rfl,rfl⟩
end Go.Proofs
end
section
namespace Go.Proofs
open Go Go.RowKit
variable [Lo.St]
abbrev zT (w:World) (B:Nat) (A:Option Addr) (l:List Int):Prop:=Rd w B 1 A l.length λi _=>.int .i64 ((l[i]?).getD 0)
theorem Vm {w:World} {bb off k:Nat} {l:List Int} (hc:∀i j,i<l.length->j<1->w.cell? ⟨bb,off+(i*1+j),none⟩=some (.int .i64 ((l[i]?).getD 0))) (hlt:k<l.length):w.cell? ⟨bb,off+k,none⟩=some (.int .i64 l[k]):=by
 have :=hc k 0 hlt (by omega);rw [Nat.mul_one,Nat.add_zero] at this;rw [this,ax hlt];rfl
theorem ownsRow.Vm {w:World} {base n B:Nat} {v:Value} {l:List Int} (h:w.ownsRow base 3 1 v n (l.map λx=>.int .i64 x)):∃A cap,v= .slice A n cap∧n=l.length∧(w.heap.size<=B->zT w B A l):=by
 obtain ⟨hl,h⟩:=h;have hn:n=l.length:=by simpa using hl.symm
 rcases h with ⟨rfl,rfl⟩|⟨g,cap,cur,rfl,hb,hg,h1,h2,h3,h4⟩
 ·exact ⟨none,0,rfl,hn, λ_ h=>absurd h (by omega)⟩
 ·refine ⟨_,cap,rfl,hn, λhB _=>⟨g,0,rfl,ak (aa.1 hg).1 hB, λi j hi hj=>?_⟩⟩;obtain rfl:j=0:=by omega
  have e:(cur.toList.take (n*1))[i]?=some (.int .i64 ((l[i]?).getD 0)):=by
   rw [h4];simp [hi]
  rw [List.getElem?_take] at e;split at e
  ·unfold World.cell?;simp only [hg];simpa using e
  ·cases e
def jJ:List Int->List Int->Int
 | [],[]=>0
 | [],_::_=> -1
 |_::_,[]=>1
 |a::x,b::y=>if ze a b=0 then jJ x y else ze a b
theorem Jv {l m:List Int} {k:Nat} (h1:k<l.length) (h2:k<m.length):jJ (l.drop k) (m.drop k)=if ze l[k] m[k]=0 then jJ (l.drop (k+1)) (m.drop (k+1)) else ze l[k] m[k]:=by
 rw [aG h1,aG h2];rfl
theorem Jw {l m:List Int} {k:Nat} (h1:k<l.length) (h2:m.length<=k):jJ (l.drop k) (m.drop k)=1:=by
 rw [aG h1,List.drop_of_length_le h2];rfl
theorem Lu {l m:List Int} {k:Nat} (h1:l.length<=k):jJ (l.drop k) (m.drop k)=if k<m.length then -1 else 0:=by
 rw [List.drop_of_length_le h1];split
 ·rename_i h;rw [aG h];rfl
 ·rename_i h;rw [List.drop_of_length_le (by omega)];rfl
theorem Lo.Vn {w:World} {B:Nat} {A1 A2:Option Addr} {l1 l2:List Int} {c1 c2:Nat} (h1:zT w B A1 l1) (h2:zT w B A2 l2) (hl1:l1.length<=64) (hl2:l2.length<=64):
 Calls Lo.prog 34 #[.slice A1 l1.length c1,.slice A2 l2.length c2] w λe w'=>e= .returned (.int .i64 (jJ l1 l2))∧w'=w:=by
 obtain ⟨U,U2,U3,U4,U5,U6⟩:=@Lo.facts inferInstance;have C:=(@Lo.call33 inferInstance);go_enter Lo.func34,Try.ntmps34;go_wp2
 go_loopw [11] (λi wr=>∃k:Nat,k<=l1.length∧k<=l2.length∧i= .int .i64 (k:Int)∧jJ (l1.drop k) (l2.drop k)=jJ l1 l2∧wr=w) (λi _=>l1.length - (intOf i).toNat)
 case atStart=>exact ⟨0,aL _,aL _,rfl,rfl,rfl⟩
 case round=>
  obtain ⟨k,hk,hk2,rfl,hx,rfl⟩:=hrel
  by_cases hlt:k<l1.length
  ·have hlt':(k:Int)<(l1.length:Int):=by omega
   obtain ⟨b1,o1,rfl,hb1,hc1⟩:=h1 (by omega);have r1:=Vm hc1 hlt
   by_cases hlt2:k<l2.length
   ·have ae2:(k:Int)<(l2.length:Int):=by omega
    have d2:decide ((l2.length:Int)<=(k:Int))=false:=by simp;omega
    obtain ⟨b2,o2,rfl,hb2,hc2⟩:=h2 (by omega);have r2:=Vm hc2 hlt2;have hd:=Jv hlt hlt2;rw [hx] at hd;clear hc1 hc2 h1 h2 hx;generalize l1[k]=x at r1 hd;generalize l2[k]=y at r2 hd
    by_cases hq:ze x y=0
    ·rw [if_pos hq] at hd;have d3:(ze x y==0)=true:=by simpa using hq
     have HD:=Lib.hid hd;clear hd
     go_wp2_with (go_at_call 33;refine (Lo.Im _ _ _).mono ?_;rintro e w1 ⟨rfl,rfl⟩)
     go_roundw
     case rel=>exact ⟨k+1,by omega,by omega,by go_num,HD.out.symm,by simp⟩
     case measure=>simp [intOf];omega
    ·rw [if_neg hq] at hd;have d3:(ze x y==0)=false:=by simpa using hq
     have HD:=Lib.hid hd;clear hd
     go_wp2_with (go_at_call 33;refine (Lo.Im _ _ _).mono ?_;rintro e w1 ⟨rfl,rfl⟩)
     go_ret;exact ⟨by rw [HD.out];rfl,rfl⟩
   ·have d2:decide ((l2.length:Int)<=(k:Int))=true:=by simp;omega
    rw [Jw hlt (by omega)] at hx;have HX:=Lib.hid hx;clear hc1 h1 h2 hx;go_wp2;go_ret;exact ⟨by rw [<-HX.out];rfl,rfl⟩
  ·obtain rfl:k=l1.length:=by omega
   rw [Lu (aj _)] at hx
   by_cases hq:l1.length<l2.length
   ·rw [if_pos hq] at hx;have d2:decide ((l1.length:Int)<(l2.length:Int))=true:=by simp;omega
    have HX:=Lib.hid hx;clear hx;go_wp2;go_ret;exact ⟨by rw [<-HX.out];rfl,rfl⟩
   ·rw [if_neg hq] at hx;have d2:decide ((l1.length:Int)<(l2.length:Int))=false:=by simp;omega
    have HX:=Lib.hid hx;clear hx;go_wp2;go_ret;exact ⟨by rw [<-HX.out];rfl,rfl⟩
def orI (a b:Int):Int:=if a=0 then b else a
theorem Lo.Io {w:World} {bb off:Nat} {a b:Int} {cap:Nat} (h1:w.cell? ⟨bb,off,none⟩=some (.int .i64 a)) (h2:w.cell? ⟨bb,off+1,none⟩=some (.int .i64 b)):
 Calls Lo.prog 32 #[.slice (some ⟨bb,off,none⟩) 2 cap] w λe w'=>e= .returned (.int .i64 (orI a b))∧w'=w:=by
 obtain ⟨U,U2,U3,U4,U5,U6⟩:=@Lo.facts inferInstance;unfold orI
 by_cases ha:a=0
 ·rw [if_pos ha];subst ha
  by_cases hb:b=0
  ·subst hb;go_enter Lo.func32,Try.ntmps32;go_wp2;refine wp_loop_rounds 3 ?_
   rw [rounds_succ];go_wp2
   rw [rounds_succ];go_wp2
   rw [rounds_succ];go_wp2
   go_ret;exact ⟨rfl,rfl⟩
  ·have d:(b==0)=false:=by simpa using hb
   go_enter Lo.func32,Try.ntmps32;go_wp2;refine wp_loop_rounds 2 ?_
   rw [rounds_succ];go_wp2
   rw [rounds_succ];go_wp2
   go_ret;exact ⟨rfl,rfl⟩
 ·rw [if_neg ha];have d:(a==0)=false:=by simpa using ha
  go_enter Lo.func32,Try.ntmps32;go_wp2;refine wp_loop_rounds 1 ?_
  rw [rounds_succ];go_wp2
  go_ret;exact ⟨rfl,rfl⟩
end Go.Proofs
end
section
namespace Go.Proofs
open Go Go.RowKit
variable [Lo.St]
theorem Lo.mixed:Lo.prog.follows .mixedOrders=true:=by rw [Lo.iD];show Try.prog.follows .mixedOrders=true;kernel_rfl
def lX (l:List Int) (m:Bool) (steps:List Int) (much found:Bool):Bool:=
 let c:=orI (ze l.length steps.length) (jJ l steps)
 if !found||decide (c<0) then true else if c=0 then much&&!m else false
theorem Lo.Lv {w:World} {B bs bf bm:Nat} {A1 A2:Option Addr} {l st:List Int} {c1 c2:Nat} {m much found:Bool} (h1:zT w B A1 l) (h2:zT w B A2 st) (hl1:l.length<=64) (hl2:st.length<=64)
 (hs:w.cell? ⟨bs,0,none⟩=some (.slice A2 st.length c2)) (hf:w.cell? ⟨bf,0,none⟩=some (.bool found)) (hm:w.cell? ⟨bm,0,none⟩=some (.bool much)) (hB:B<=w.heap.size) (hbf:bf<w.heap.size) (hbm:bm<w.heap.size):
 Calls Lo.prog 31 #[.slice A1 l.length c1,.bool m,.pointer (some ⟨bs,0,none⟩),.pointer (some ⟨bf,0,none⟩),.pointer (some ⟨bm,0,none⟩)] w λe w'=>e= .returned (.bool (lX l m st much found))∧Below w.heap.size w w':=by
 obtain ⟨U,U2,U3,U4,U5,U6⟩:=@Lo.facts inferInstance;have C:=(@Lo.call32 inferInstance);have C2:=(@Lo.call33 inferInstance);have C3:=(@Lo.call34 inferInstance);generalize hr:lX l m st much found=r;unfold lX at hr;have HR:=Lib.hid hr;clear hr;go_enter Lo.func31,Try.ntmps31
 go_wp2_with fail
 go_still_tail 8,Lo.mixed
 still_call ((Lo.Im _ _ _).mono (by rintro e w1 ⟨rfl,rfl⟩;exact ⟨rfl,rfl⟩))
 repeat still_step
 have k1:zT w.drew B A1 l:=h1.keep λ_ _ _=>rfl
 have k2:zT w.drew B A2 st:=h2.keep λ_ _ _=>rfl
 still_call ((Lo.Vn k1 k2 hl1 hl2).mono (by rintro e w1 ⟨rfl,rfl⟩;exact ⟨rfl,rfl⟩))
 refine wpStill_nil ?_
 change wpList _ _ _ _ _ w.drew;have hf2:w.drew.cell? ⟨bf,0,none⟩=some (.bool found):=hf;have hm2:w.drew.cell? ⟨bm,0,none⟩=some (.bool much):=hm;have hbw:Below w.heap.size w w.drew:=(Below.refl _ _).drew;have au8:bf<w.drew.heap.size:=hbf;have au9:bm<w.drew.heap.size:=hbm;have hsz:w.heap.size<=w.drew.heap.size:=aj _;clear k1 k2 h1 h2 hs hf hm hbf hbm hB;generalize w.drew=w2 at *;have hr:=HR.out;clear HR;generalize hx:ze l.length st.length=x at hr ⊢;generalize hy:jJ l st=y at hr ⊢;have HB:=Lib.hid (hbw.alloc hsz (.cells #[.int .i64 x,.int .i64 y] 3));clear hx hy hbw hsz;generalize hc:orI x y=c at hr;have HR:=Lib.hid hr;clear hr;cases found with
 |false=>
  go_wp2_with (go_at_call 32;refine (Lo.Io (a:=x) (b:=y) (by simp) (by simp)).mono ?_;rintro e w3 ⟨rfl,rfl⟩;rw [hc])
  go_ret;exact ⟨by rw [<-HR.out];simp,HB.out⟩
 |true=>
  rcases Int.lt_trichotomy c 0 with h|h|h
  ·have d:decide (c<0)=true:=by simpa using h
   go_wp2_with (go_at_call 32;refine (Lo.Io (a:=x) (b:=y) (by simp) (by simp)).mono ?_;rintro e w3 ⟨rfl,rfl⟩;rw [hc])
   go_ret;exact ⟨by rw [<-HR.out];simp [h],HB.out⟩
  ·subst h;cases much
   all_goals
    go_wp2_with (go_at_call 32;refine (Lo.Io (a:=x) (b:=y) (by simp) (by simp)).mono ?_;rintro e w3 ⟨rfl,rfl⟩;rw [hc])
    go_ret;exact ⟨by rw [<-HR.out];simp,HB.out⟩
  ·have d:decide (c<0)=false:=by simp;omega
   have d2:(c==0)=false:=by simp;omega
   have hne:¬c=0:=by omega
   go_wp2_with (go_at_call 32;refine (Lo.Io (a:=x) (b:=y) (by simp) (by simp)).mono ?_;rintro e w3 ⟨rfl,rfl⟩;rw [hc])
   go_ret;exact ⟨by rw [<-HR.out];simp [hne];omega,HB.out⟩
end Go.Proofs
end
section
namespace Go.Proofs
open Go Go.RowKit
variable [Lo.St]
theorem Lo.Xv:Lo.prog.underlying 22=some (.slice 32):=(Lo.underlying 22).trans (by kernel_rfl)
theorem Lo.Rk:(Lo.prog.info? 32).map (λi=>(i.zero,i.size,i.bytes))=some (some (.agg #[.int .i64 0,.int .i64 0]),2,16):=by
 rw [Lo.info];kernel_rfl
def ic (o:List Int):List Value:=o.map λx=>.int .i64 x
def ry (ss:List dL):Nat->List Int
 |0=>[]
 |k+1=>ry ss k++match ss[k]? with |some x=>[x.lo,x.hi]|none=>[]
def zf (ss:List dL) (s:Nat) (o:List Int) (k:Nat):List Int:=
 match ss[k]? with
 |none=>o
 |some x=>
  if lQ s x.fr x.to=1 then o.set (2*k) (max ((o[2*k]?).getD 0) (fe ss s+x.hi))
  else if lQ s x.fr x.to=2 then o.set (2*k+1) (min ((o[2*k+1]?).getD 0) (x.lo - fe ss s)) else o
def wU (ss:List dL) (s:Nat) (o:List Int):Nat->List Int
 |0=>o
 |k+1=>zf ss s (wU ss s o k) k
def qB (ss:List dL):Nat->List Int
 |0=>ry ss ss.length
 |m+1=>wU ss m (qB ss m) ss.length
def spansOf (ss:List dL) (nd:Nat):List Int:=qB ss (2 ^ nd)
theorem DW (ss:List dL):∀k,k<=ss.length->(ry ss k).length=2*k
 |0,_=>rfl
 |k+1,h=>by
  unfold ry;rw [ax h,List.length_append,DW ss k (by omega)];simp;omega
theorem Lx (ss:List dL) (s:Nat) (o:List Int) (k:Nat):(zf ss s o k).length=o.length:=by
 unfold zf;split
 ·rfl
 ·split
  ·simp
  ·split<;>simp
theorem Bu (ss:List dL) (s:Nat) (o:List Int):∀k,(wU ss s o k).length=o.length
 |0=>rfl
 |k+1=>by unfold wU;rw [Lx,Bu ss s o k]
theorem si (ss:List dL):∀m,(qB ss m).length=2*ss.length
 |0=>DW ss _ (aj _)
 |m+1=>by unfold qB;rw [Bu,si ss m]
def Rl (o:List Int):Prop:=∀x∈o, -600000000<=x∧x<=600000000
theorem Jy (ss:List dL) (h:∀x∈ss,x.ok):∀k,Rl (ry ss k)
 |0=> λ_ h=>by simp [ry] at h
 |k+1=> λy hy=>by
  unfold ry at hy;rcases List.mem_append.1 hy with hy|hy
  ·exact Jy ss h k y hy
  ·cases hx:ss[k]? with
   |none=>rw [hx] at hy;simp at hy
   |some x=>
    rw [hx] at hy;obtain ⟨a,b,c,d,_⟩:=h x (List.mem_of_getElem? hx);simp at hy;rcases hy with rfl|rfl<;>omega
theorem Rl.get {o:List Int} (h:Rl o) (k:Nat): -600000000<=(o[k]?).getD 0∧(o[k]?).getD 0<=600000000:=by
 cases hx:o[k]? with
 |none=>simp
 |some x=>exact h x (List.mem_of_getElem? hx)
theorem Rl.set {o:List Int} (h:Rl o) (k:Nat) {v:Int} (hv: -600000000<=v∧v<=600000000):Rl (o.set k v):= λx hx=>by
 rcases List.mem_or_eq_of_mem_set hx with hx|rfl
 ·exact h x hx
 ·exact hv
theorem Rm (ss:List dL) (h:∀x∈ss,x.ok) (hl:ss.length<=64) (s:Nat) {o:List Int} (ho:Rl o) (k:Nat):Rl (zf ss s o k):=by
 have hs:=Gb ss s h hl;unfold zf;split
 ·exact ho
 ·rename_i x hx;obtain ⟨a,b,c,d,_⟩:=h x (List.mem_of_getElem? hx);have g1:=ho.get (2*k);have g2:=ho.get (2*k+1);split
  ·exact ho.set _ (by omega)
  ·split
   ·exact ho.set _ (by omega)
   ·exact ho
theorem Ip (ss:List dL) (h:∀x∈ss,x.ok) (hl:ss.length<=64) (s:Nat) {o:List Int} (ho:Rl o):∀k,Rl (wU ss s o k)
 |0=>ho
 |k+1=>Rm ss h hl s (Ip ss h hl s ho k) k
theorem Jz (ss:List dL) (h:∀x∈ss,x.ok) (hl:ss.length<=64):∀m,Rl (qB ss m)
 |0=>Jy ss h _
 |m+1=>Ip ss h hl m (Jz ss h hl m) _
theorem ownsRow.below {w w2:World} {base e size n:Nat} {v:Value} {xs:List Value} (h:w.ownsRow base e size v n xs) (hb:Below w.heap.size w w2):w2.ownsRow base e size v n xs:=by
 obtain ⟨h1,h2⟩:=h;refine ⟨h1,h2.imp id ?_⟩;rintro ⟨g,cap,cur,a,b,c,d⟩;exact ⟨g,cap,cur,a,b,(hb.block g (aa.1 c).1).trans c,d⟩
theorem ownsRow.shape {w:World} {base e size n:Nat} {v:Value} {xs:List Value} (h:w.ownsRow base e size v n xs) (hn:0<n):∃g cap,v= .slice (some ⟨g,0,none⟩) n cap∧base<=g∧g<w.heap.size:=by
 rcases h.2 with ⟨_,rfl⟩|⟨g,cap,cur,a,b,c,d⟩
 ·omega
 ·exact ⟨g,cap,a,b,(aa.1 c).1⟩
theorem vR (o:List Int) {k:Nat} (h:k<o.length):(ic o)[k]?=some (.int .i64 ((o[k]?).getD 0)):=by
 unfold ic;rw [List.getElem?_map,ax h];rfl
theorem DX (o:List Int) (k:Nat) (x:Int):(ic o).set k (.int .i64 x)=ic (o.set k x):=by
 unfold ic;rw [List.map_set]
theorem Lo.O6 {w:World} {B b:Nat} {ss:List dL} {st nd:Nat} {A:Option Addr} {cap:Nat} (hw:jX w B b ss st nd A cap) (hB:B<=w.heap.size) (hnd:nd<=16):
 Calls Lo.prog 51 #[.pointer (some ⟨b,0,none⟩)] w λe w'=>∃v,e= .returned v∧w'.ownsRow w.heap.size 32 2 v ss.length (ic (spansOf ss nd))∧Par.dh w' v∧Below w.heap.size w w':=by
 obtain ⟨U,U2,U3,U4,U5,U6⟩:=@Lo.facts inferInstance;have C:=(@Lo.call55 inferInstance);have C2:=(@Lo.call81 inferInstance);obtain ⟨i0,hi,hz0,hz1,hz2⟩:=info_parts Lo.Rk;have hlen:=hw.len;have c0:=hw.c0;go_enter Lo.func51,Try.ntmps51;go_wp2
 go_loopw [3,15] (λv i wr=>∃k:Nat,k<=ss.length∧i= .int .i64 (k:Int)∧wr.ownsRow w.heap.size 32 2 v k (ic (ry ss k))∧Par.dh wr v∧Below w.heap.size w wr) (λ_ i _=>ss.length - (intOf i).toNat)
 case atStart=>exact ⟨0,aL _,rfl,by simpa [ry,ic] using World.ownsRow_nil w w.heap.size 32 2,Par.dh.nil _,Below.refl _ _⟩
 case round=>
  obtain ⟨k,hk,rfl,hown,hpl,hb⟩:=hrel;have HP:=Lib.hid hpl;clear hpl
  by_cases hlt:k<ss.length
  ·have hlt':(k:Int)<(ss.length:Int):=by omega
   obtain ⟨bb,off,rfl,hbb,hc⟩:=(hw.rd.keep (λb o h=>bV hb b o (by omega))) (by omega);obtain ⟨k0,k1,k2,k3⟩:=Ij (B:=B) hc hlt
   have hin:ry ss (k+1)=ry ss k++ [ss[k].lo,ss[k].hi]:=by
    show ry ss k++_=_;rw [ax hlt]
   generalize ss[k]=x at hin k0 k1 k2 k3;obtain ⟨lo,hi',fr,to⟩:=x;simp only at hin k0 k1 k2 k3;have Yq:=hb.size;have HB:=Lib.hid hb;have HI:=Lib.hid hin;clear hb hc hin c0
   go_wp2_with (first
    |(at_builtin;refine Par.eP rfl _ _ 22 rfl w.heap.size 32 i0 (.agg #[.int .i64 0,.int .i64 0]) 2 16 Lo.Xv hi hz0 hz1 hz2 rfl (by decide) _ _ _ rfl ((hown.alloc _).alloc _) ⟨wr.heap.size+1,0,none⟩ 1 1 [.int .i64 lo,.int .i64 hi'] rfl rfl ?c1 ?c2 ?c3 ?c4 ?c5 ((HP.out.alloc _).alloc _) ?c6 ?c7 ?_)
    |go_in)
   case c1=>
    intro j u hj
    match j,hj with
    |0,hj=>simp at hj;subst hj;simp [Addr.add]
    |1,hj=>simp at hj;subst hj;simp [Addr.add]
   case c2=>intro u hu;simp at hu;rcases hu with rfl|rfl<;>rfl
   case c3=>unfold maxLen;omega
   case c4=>omega
   case c5=>simp;omega
   case c6=>intro u hu;simp at hu;rcases hu with rfl|rfl<;>rfl
   case c7=>intro u hu;simp [Value.cells] at hu;subst hu;rfl
   intro v' w1 hown' hgrow _ hp';have Rj:=Lib.hid hp';clear hp';have R:=((HB.out.alloc Yq _).alloc (by simp;omega) _).grown hgrow (by simp;omega) (λj hj=>(hown.lt j hj).1);have RO:=Lib.hid hown';clear hown' hgrow hown;go_wp2;go_roundw
   case rel=>exact ⟨k+1,by omega,by go_num,by rw [HI.out];simpa [ic] using RO.out,Rj.out,R⟩
   case measure=>simp [intOf];omega
  ·obtain rfl:k=ss.length:=by omega
   have Yq:=hb.size;have hsh:=xY nd (by omega);have hp:(2:Nat) ^ nd<=65536:=Nat.pow_le_pow_right (n:=2) (by decide) hnd;have c2:=(bV hb _ _ (ak hw.lt hB)).trans hw.c2;go_wp2;rw [show ((2:Int) ^ nd)=((2 ^ nd:Nat):Int) from by simp];generalize hm:2 ^ nd=m at hp;clear hsh c2 c0
   go_loopw [35] (λi wq=>∃k:Nat,k<=m∧i= .int .u64 (k:Int)∧wq.ownsRow w.heap.size 32 2 u3 ss.length (ic (qB ss k))∧Par.dh wq u3∧Below w.heap.size w wq) (λi _=>m - (intOf i).toNat)
   case atStart=>exact ⟨0,aL _,rfl,hown,HP.out,hb⟩
   case round=>
    obtain ⟨k,hk,rfl,hown,hpl,hb⟩:=hrel;have HP1:=Lib.hid hpl;clear hpl HP
    by_cases hlt:k<m
    ·have hlt':(k:Int)<(m:Int):=by omega
     have hwk:=hw.keep (λb o h=>bV hb b o (by omega));have hBk:B<=wr.heap.size:=aC hB hb.size;have OZ:k<2 ^ 63:=by omega
     have HB:=Lib.hid hb;have HO:=Lib.hid hown;have c0:=hwk.c0;clear hb hown
     go_wp2_with (go_at_call 55;refine (Lo.uM hwk hBk k OZ).mono ?_;rintro e w2 ⟨rfl,hb2⟩;have c0':=(bV hb2 _ _ (ak hw.lt hBk)).trans hwk.c0)
     have hb3:=HB.out.trans (hb2.mono HB.out.size);have HP2:=Lib.hid (HP1.out.keep λg hg=>hb2.block g (HO.out.lt g hg).2);have hown3:w2.ownsRow w.heap.size 32 2 u3 ss.length (ic (wU ss k (qB ss k) 0)):=ownsRow.below HO.out hb2;clear c0 c0' hwk hBk hb2 HB HO
     go_loopw [46] (λi wq=>∃j:Nat,j<=ss.length∧i= .int .i64 (j:Int)∧wq.ownsRow w.heap.size 32 2 u3 ss.length (ic (wU ss k (qB ss k) j))∧Par.dh wq u3∧Below w.heap.size w wq) (λi _=>ss.length - (intOf i).toNat)
     case atStart=>exact ⟨0,aL _,rfl,hown3,HP2.out,hb3⟩
     case round=>
      obtain ⟨j,hj,rfl,hown,hpl,hb⟩:=hrel;have HP:=Lib.hid hpl;clear hpl
      by_cases hjl:j<ss.length
      ·have Rp:(j:Int)<(ss.length:Int):=by omega
       obtain ⟨bb,off,rfl,hbb,hc⟩:=(hw.rd.keep (λb o h=>bV hb b o (by omega))) (by omega);obtain ⟨k0,k1,k2,k3⟩:=Ij (B:=B) hc hjl;have hx:=hw.ok ss[j] (aI hjl);have hsa:=Gb ss k hw.ok hw.len;have hrow:wU ss k (qB ss k) (j+1)=zf ss k (wU ss k (qB ss k) j) j:=rfl;have hob:=Ip ss hw.ok hw.len k (Jz ss hw.ok hw.len k) j;have hol:(wU ss k (qB ss k) j).length=2*ss.length:=by rw [Bu,si]
       unfold zf at hrow;rw [ax hjl] at hrow;simp only at hrow;generalize wU ss k (qB ss k) j=o at hrow hob hol hown;generalize ho':wU ss k (qB ss k) (j+1)=o' at hrow;have Vo:=Lib.hid ho';clear ho';generalize ss[j]=x at hrow hx k0 k1 k2 k3;obtain ⟨lo,hi',fr,to⟩:=x;obtain ⟨x1,x2,x3,x4,x5,x6⟩:=hx;simp only at hrow x1 x2 x3 x4 x5 x6 k0 k1 k2 k3;generalize fe ss k=n at *;obtain ⟨g,LA,rfl,hg1,hg2⟩:=ownsRow.shape hown (by omega);have hg0:=hob.get (2*j);have hg9:=hob.get (2*j+1);have e0:=vR o (k:=2*j) (by omega);have e1:=vR o (k:=2*j+1) (by omega);generalize (o[2*j]?).getD 0=a0 at *;generalize (o[2*j+1]?).getD 0=a1 at *;have hbs:=hb.size;have hks:k<2 ^ 63:=by omega
       have HOW:=Lib.hid hown;have HB:=Lib.hid hb;have HC0:=Lib.hid ((HOW.out.cellAt (2*j) (by omega)).trans e0);have HC1:=Lib.hid ((HOW.out.cellAt (2*j+1) (by omega)).trans e1);have HF:=Lib.hid (HOW.out.frozenAt);clear hown hb hc e0 e1 hob
       have hq:lQ k fr to=1∨lQ k fr to=2∨lQ k fr to=0:=by
        unfold lQ;split
        ·exact .inl rfl
        ·split
         ·exact .inr (.inl rfl)
         ·exact .inr (.inr rfl)
       rcases hq with hq|hq|hq
       ·rw [if_pos hq] at hrow;have HQ:=Lib.hid hq;have HR:=Lib.hid hrow;clear hq hrow
        go_wp2_with (go_at_call 81;refine (Lo.NC _ _ _ _ _ _ _ x5 x6 hks HQ.out).mono ?_;rintro e w4 ⟨rfl,hb4⟩)
        have hold:∀y,y<wr.heap.size->w4.heap[y]?=wr.heap[y]?:= λy hy=>(hb4.block y (by simp;omega)).trans (Below.heap_alloc _ _ _ hy)
        have Cs:w4.ownsRow w.heap.size 32 2 (.slice (some ⟨g,0,none⟩) ss.length LA) ss.length (ic o):=ownsRow.below (HOW.out.alloc _) hb4;have yC:Below w.heap.size w w4:=(HB.out.alloc hbs _).trans (hb4.mono (by simp;omega))
        have k9:∀i:Nat,w4.cell? ⟨wr.heap.size,i,none⟩=(#[.int .i64 lo,.int .i64 hi',.int .i64 (fr:Int),.int .i64 (to:Int)]:Array Value)[i]?:= λi=>by
         rw [World.cell?_of_block (w:=wr.alloc (.cells #[.int .i64 lo,.int .i64 hi',.int .i64 (fr:Int),.int .i64 (to:Int)] 113)) (hb4.block wr.heap.size (by simp)),World.cell?_alloc_at _ _ _ _ rfl]
        have k90:w4.cell? ⟨wr.heap.size,0,none⟩=some (.int .i64 lo):=k9 0;have k91:w4.cell? ⟨wr.heap.size,1,none⟩=some (.int .i64 hi'):=k9 1
        have kg:w4.cell? ⟨g,j*2+0,none⟩=some (.int .i64 a0):=by
         rw [show j*2+0=2*j+0 from by omega,World.cell?_of_block (w:=wr) (hold g hg2)];exact HC0.out
        have kf:w4.frozen? ⟨g,j*2+0,none⟩=false:=by rw [World.frozen?_of_block (w:=wr) (hold g hg2)];exact HF.out _
        have Yr:=Lib.hid ((HP.out.alloc (.cells #[.int .i64 lo,.int .i64 hi',.int .i64 (fr:Int),.int .i64 (to:Int)] 113)).keep λg' hg'=>hb4.block g' (by have :=(HOW.out.lt g' hg').2;simp;omega));have Yt:=Lib.hid Cs;have Yu:=Lib.hid yC;clear hold k9 Cs yC hb4 k0 k1 k2 k3
        try simp only [Nat.add_zero] at kg kf
        go_still_tail 13,Lo.mixed
        change wpList _ _ _ _ _ w4.drew;have kf':w4.drew.frozen? ⟨g,j*2,none⟩=false:=kf;have kg':w4.drew.cell? ⟨g,j*2,none⟩=some (.int .i64 a0):=kg;have HO5:Hid (w4.drew.ownsRow w.heap.size 32 2 (.slice (some ⟨g,0,none⟩) ss.length LA) ss.length (ic o)):=Yt;have FM:Below w.heap.size w w4.drew:=Yu.out.drew;have HP5:Hid (Par.dh w4.drew (.slice (some ⟨g,0,none⟩) ss.length LA)):=Yr;have JA:=Lib.hid FM;clear Yr;clear FM Yt Yu kf kg;generalize w4.drew=w5 at *;go_wp2;go_roundw
        case rel=>
         refine ⟨j+1,by omega,by go_num,?_,HP5.out.setCell rfl,JA.out.setCell (by show w.heap.size<=g;omega) _⟩;have hv:(if a0<n+hi' then n+hi' else a0)=max a0 (n+hi'):=by split<;>omega
         have :=(HO5.out.stored (2*j) (.int .i64 (max a0 (n+hi')))).1;rw [DX, <-HR.out, <-Vo.out] at this;rw [show j*2=2*j from Nat.mul_comm _ _]
         first |exact this|(rw [hv];exact this)
        case measure=>simp [intOf];omega
       ·rw [if_neg (by omega),if_pos hq] at hrow;have HQ:=Lib.hid hq;have HR:=Lib.hid hrow;clear hq hrow
        go_wp2_with (go_at_call 81;refine (Lo.NC _ _ _ _ _ _ _ x5 x6 hks HQ.out).mono ?_;rintro e w4 ⟨rfl,hb4⟩)
        have hold:∀y,y<wr.heap.size->w4.heap[y]?=wr.heap[y]?:= λy hy=>(hb4.block y (by simp;omega)).trans (Below.heap_alloc _ _ _ hy)
        have Cs:w4.ownsRow w.heap.size 32 2 (.slice (some ⟨g,0,none⟩) ss.length LA) ss.length (ic o):=ownsRow.below (HOW.out.alloc _) hb4;have yC:Below w.heap.size w w4:=(HB.out.alloc hbs _).trans (hb4.mono (by simp;omega))
        have k9:∀i:Nat,w4.cell? ⟨wr.heap.size,i,none⟩=(#[.int .i64 lo,.int .i64 hi',.int .i64 (fr:Int),.int .i64 (to:Int)]:Array Value)[i]?:= λi=>by
         rw [World.cell?_of_block (w:=wr.alloc (.cells #[.int .i64 lo,.int .i64 hi',.int .i64 (fr:Int),.int .i64 (to:Int)] 113)) (hb4.block wr.heap.size (by simp)),World.cell?_alloc_at _ _ _ _ rfl]
        have k90:w4.cell? ⟨wr.heap.size,0,none⟩=some (.int .i64 lo):=k9 0;have k91:w4.cell? ⟨wr.heap.size,1,none⟩=some (.int .i64 hi'):=k9 1
        have kg:w4.cell? ⟨g,j*2+1,none⟩=some (.int .i64 a1):=by
         rw [show j*2+1=2*j+1 from by omega,World.cell?_of_block (w:=wr) (hold g hg2)];exact HC1.out
        have kf:w4.frozen? ⟨g,j*2+1,none⟩=false:=by rw [World.frozen?_of_block (w:=wr) (hold g hg2)];exact HF.out _
        have Yr:=Lib.hid ((HP.out.alloc (.cells #[.int .i64 lo,.int .i64 hi',.int .i64 (fr:Int),.int .i64 (to:Int)] 113)).keep λg' hg'=>hb4.block g' (by have :=(HOW.out.lt g' hg').2;simp;omega));have Yt:=Lib.hid Cs;have Yu:=Lib.hid yC;clear hold k9 Cs yC hb4 k0 k1 k2 k3
        try simp only [Nat.add_zero] at kg kf
        go_still_tail 13,Lo.mixed
        change wpList _ _ _ _ _ w4.drew;have kf':w4.drew.frozen? ⟨g,j*2+1,none⟩=false:=kf;have kg':w4.drew.cell? ⟨g,j*2+1,none⟩=some (.int .i64 a1):=kg;have HO5:Hid (w4.drew.ownsRow w.heap.size 32 2 (.slice (some ⟨g,0,none⟩) ss.length LA) ss.length (ic o)):=Yt;have FM:Below w.heap.size w w4.drew:=Yu.out.drew;have HP5:Hid (Par.dh w4.drew (.slice (some ⟨g,0,none⟩) ss.length LA)):=Yr;have JA:=Lib.hid FM;clear Yr;clear FM Yt Yu kf kg;generalize w4.drew=w5 at *;go_wp2;go_roundw
        case rel=>
         refine ⟨j+1,by omega,by go_num,?_,HP5.out.setCell rfl,JA.out.setCell (by show w.heap.size<=g;omega) _⟩;have hv:(if lo - n<a1 then lo - n else a1)=min a1 (lo - n):=by split<;>omega
         have :=(HO5.out.stored (2*j+1) (.int .i64 (min a1 (lo - n)))).1;rw [DX, <-HR.out, <-Vo.out] at this;rw [show j*2=2*j from Nat.mul_comm _ _]
         first |exact this|(rw [hv];exact this)
        case measure=>simp [intOf];omega
       ·rw [if_neg (by omega),if_neg (by omega)] at hrow;have HQ:=Lib.hid hq;have HR:=Lib.hid hrow;clear hq hrow
        go_wp2_with (go_at_call 81;refine (Lo.NC _ _ _ _ _ _ _ x5 x6 hks HQ.out).mono ?_;rintro e w4 ⟨rfl,hb4⟩)
        have Cs:w4.ownsRow w.heap.size 32 2 (.slice (some ⟨g,0,none⟩) ss.length LA) ss.length (ic o):=ownsRow.below (HOW.out.alloc _) hb4;have yC:Below w.heap.size w w4:=(HB.out.alloc hbs _).trans (hb4.mono (by simp;omega));have Yr:=Lib.hid ((HP.out.alloc (.cells #[.int .i64 lo,.int .i64 hi',.int .i64 (fr:Int),.int .i64 (to:Int)] 113)).keep λg' hg'=>hb4.block g' (by have :=(HOW.out.lt g' hg').2;simp;omega));have Yt:=Lib.hid Cs;have Yu:=Lib.hid yC;clear Cs yC hb4;go_roundw
        case rel=>exact ⟨j+1,by omega,by go_num,by rw [Vo.out,HR.out];exact Yt.out,Yr.out,Yu.out⟩
        case measure=>simp [intOf];omega
      ·obtain rfl:j=ss.length:=by omega
       go_wp2;go_roundw
       case rel=>exact ⟨k+1,by omega,by go_num,hown,HP.out,hb⟩
       case measure=>simp [intOf];omega
    ·obtain rfl:k=m:=by omega
     go_wp2;go_ret;exact ⟨_,rfl,by unfold spansOf;rw [hm];exact hown,HP1.out,hb⟩
end Go.Proofs
end
section
namespace Go.Proofs
open Go Go.RowKit
variable [Lo.St]
def dQ (lo hi a b:Int):Bool:=decide (a<=lo)&&decide (lo<=hi)&&decide (hi<=b)
theorem Lo.jK (lo hi a b:Int) (w:World):Calls Lo.prog 45 #[.agg #[.int .i64 lo,.int .i64 hi],.int .i64 a,.int .i64 b] w λe w'=>e= .returned (.bool (dQ lo hi a b))∧Below w.heap.size w w':=by
 obtain ⟨U,U2,U3,U4,U5,U6⟩:=@Lo.facts inferInstance;unfold dQ
 by_cases h1:a<=lo
 ·have d1:decide (a<=lo)=true:=by simpa using h1
  by_cases h2:lo<=hi
  ·have d2:decide (lo<=hi)=true:=by simpa using h2
   go_enter Lo.func45,Try.ntmps45;go_wp2;go_ret;exact ⟨by simp [d1,d2],(Below.refl _ _).alloc (aj _) _⟩
  ·have d2:decide (lo<=hi)=false:=by simpa using h2
   go_enter Lo.func45,Try.ntmps45;go_wp2;go_ret;exact ⟨by simp [d1,d2],(Below.refl _ _).alloc (aj _) _⟩
 ·have d1:decide (a<=lo)=false:=by simpa using h1
  go_enter Lo.func45,Try.ntmps45;go_wp2;go_ret;exact ⟨by simp [d1],(Below.refl _ _).alloc (aj _) _⟩
abbrev NF (w:World) (B:Nat) (A:Option Addr) (l:List ByteArray):Prop:=Rd w B 1 A l.length λi _=>.string ((l[i]?).getD ByteArray.empty)
theorem LB {w:World} {bb off k:Nat} {l:List ByteArray} (hc:∀i j,i<l.length->j<1->w.cell? ⟨bb,off+(i*1+j),none⟩=some (.string ((l[i]?).getD ByteArray.empty))) (hlt:k<l.length):w.cell? ⟨bb,off+k,none⟩=some (.string l[k]):=by
 have :=hc k 0 hlt (by omega);rw [Nat.mul_one,Nat.add_zero] at this;rw [this,ax hlt];rfl
def Iq (s:ByteArray):List ByteArray->Nat->Int
 | [],_=> -1
 |x::l,k=>if s.toList=x.toList then (k:Int) else Iq s l (k+1)
theorem O7 (s:ByteArray) (l:List ByteArray) (k:Nat) (h:k<l.length):Iq s (l.drop k) k=if s.toList=l[k].toList then (k:Int) else Iq s (l.drop (k+1)) (k+1):=by
 rw [aG h];rfl
def JB (s:ByteArray) (l:List ByteArray):Bool:=l.any λx=>s.toList==x.toList
theorem Vp (s:ByteArray) (l:List ByteArray) (k:Nat):decide (0<=Iq s l k)=JB s l:=by
 induction l generalizing k with
 |nil=>rfl
 |cons x l ih=>
  unfold Iq JB
  by_cases h:s.toList=x.toList
  ·rw [if_pos h];simp [h]
  ·rw [if_neg h,ih];simp [h,JB]
theorem Lo.Rq {w:World} {B:Nat} {A:Option Addr} {l:List ByteArray} {c:Nat} {s:ByteArray} (h1:NF w B A l) (hl:l.length<=64):
 Calls Lo.prog 95 #[.slice A l.length c,.string s] w λe w'=>e= .returned (.int .i64 (Iq s l 0))∧w'=w:=by
 obtain ⟨U,U2,U3,U4,U5,U6⟩:=@Lo.facts inferInstance;go_enter Lo.func95,Try.ntmps95;go_wp2
 go_loopw [8] (λi wr=>∃k:Nat,k<=l.length∧i= .int .i64 (k:Int)∧Iq s (l.drop k) k=Iq s l 0∧wr=w) (λi _=>l.length - (intOf i).toNat)
 case atStart=>exact ⟨0,aL _,rfl,rfl,rfl⟩
 case round=>
  obtain ⟨k,hk,rfl,hx,rfl⟩:=hrel
  by_cases hlt:k<l.length
  ·have hlt':(k:Int)<(l.length:Int):=by omega
   obtain ⟨bb,off,rfl,hbb,hc⟩:=h1 (by omega);have r1:=LB hc hlt;have hd:=O7 s l k hlt;rw [hx] at hd;clear hc h1 hx;generalize l[k]=x at r1 hd
   by_cases hq:s.toList=x.toList
   ·rw [if_pos hq] at hd;have d:(s.toList==x.toList)=true:=by simpa using hq
    have HD:=Lib.hid hd;clear hd;go_wp2;go_ret;exact ⟨by rw [HD.out];rfl,by simp⟩
   ·rw [if_neg hq] at hd;have d:(s.toList==x.toList)=false:=by simpa using hq
    have HD:=Lib.hid hd;clear hd;go_wp2;go_roundw
    case rel=>exact ⟨k+1,by omega,by go_num,HD.out.symm,by simp⟩
    case measure=>simp [intOf];omega
  ·obtain rfl:k=l.length:=by omega
   have hx':(-1:Int)=Iq s l 0:=by rw [<-hx,List.drop_length];rfl
   have HX:=Lib.hid hx';clear hx hx';go_wp2;go_ret;exact ⟨by rw [<-HX.out];rfl,by simp⟩
theorem Lo.Rs {w:World} {B:Nat} {A:Option Addr} {l:List ByteArray} {c:Nat} {s:ByteArray} (h1:NF w B A l) (hl:l.length<=64):
 Calls Lo.prog 80 #[.slice A l.length c,.string s] w λe w'=>e= .returned (.bool (JB s l))∧w'=w:=by
 have U:=(@Lo.underlying inferInstance);have U2:=(@Lo.runUnderlying inferInstance);have C:=(@Lo.call95 inferInstance);go_enter Lo.func80,Try.ntmps80
 go_wp2_with (go_at_call 95;refine (Lo.Rq h1 hl).mono ?_;rintro e w1 ⟨rfl,rfl⟩)
 go_ret;exact ⟨by rw [<-Vp s l 0];rfl,by simp⟩
end Go.Proofs
end
