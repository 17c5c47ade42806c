/- Part 5. -/
import Derived.Laws.AppendOwn
import Derived.Maps.AppendAt
import Derived.StillTailTactics
import Derived.Laws.OwnMore
import Derived.BigRegion
import Derived.Test.YtnemnkmojiljmaaGreatB03
import Derived.Test.YtnemnkmojiljmaaGreatB04
set_option maxRecDepth 100000
set_option maxHeartbeats 0
set_option linter.all false
namespace Go.Proofs
open Go Go.RowKit
section
variable [Lo.St]
theorem Lo.Iw:Lo.prog.underlying 44=some (.slice 3):=(Lo.underlying 44).trans (by kernel_rfl)
theorem Lo.info3:(Lo.prog.info? 3).map (λi=>(i.zero,i.size,i.bytes))=some (some (.int .i64 0),1,8):=by
 rw [Lo.info];kernel_rfl
def r9 (set k:Nat):List Nat:=(List.range k).filter λi=>decide (bit set i=1)
theorem DX (set k:Nat):r9 set (k+1)=if bit set k=1 then r9 set k++ [k] else r9 set k:=by
 unfold r9;rw [List.range_succ,List.filter_append]
 by_cases h:bit set k=1<;>simp [h]
theorem E8 (set k:Nat):(r9 set k).length<=k:=by
 unfold r9;exact aT (List.length_filter_le _ _) (by simp)
def Ay (l:List Nat):List Value:=l.map λn:Nat=>.int .i64 (n:Int)
def nH (set:Nat):List Nat:=r9 set 16
theorem DY (set k:Nat) (h:set / 2 ^ k=0):∀d,r9 set (k+d)=r9 set k
 |0=>rfl
 |d+1=>by
  rw [<-Nat.add_assoc,DX,aa,DY set k h d];unfold bit
  have :set / 2 ^ (k+d)=0:=by
   rw [Nat.pow_add, <-Nat.div_div_eq_div_mul,h,Nat.zero_div]
  rw [this];simp
theorem Lo.Sg (set:Nat) (oh:set<2 ^ 16) (w:World):
 Calls Lo.prog 66 #[.int .u64 (set:Int)] w λe w'=>∃v,e= .returned v∧w'.ownsRow w.heap.size 3 1 v (nH set).length (Ay (nH set))∧Par.eP w' v∧Below w.heap.size w w':=by
 obtain ⟨U,U2,U3,U4,U5,U6⟩:=Lo.facts;obtain ⟨i0,hi,hz0,hz1,hz2⟩:=info_parts Lo.info3;go_enter Lo.func66,Tryz.ntmps66;go_wp2
 go_loopw [3,4] (λv i wr=>∃k:Nat,k<=16∧i= .int .i64 (k:Int)∧wr.ownsRow w.heap.size 3 1 v (r9 set k).length (Ay (r9 set k))∧Par.eP wr v∧Below w.heap.size w wr) (λ_ i _=>16 - (intOf i).toNat)
 case atStart=>exact ⟨0,by omega,rfl,by simpa [r9,Ay] using World.ownsRow_nil w w.heap.size 3 1,Par.eP.nil _,di _ _⟩
 case round=>
  obtain ⟨k,hk,rfl,hown,hpl,hb⟩:=hrel;have HP:=dw hpl;clear hpl;have hbl:bit set k<2:=MQ set k;have ab:=Jy set k (by omega);have ls:=DX set k;have ll:=E8 set k;have st:=DY set k;generalize hq:set / 2 ^ k=q at st;have eq1:((set:Int) / 2 ^ k)=(q:Int):=by rw [<-hq];simp
  rw [eq1] at ab
  by_cases h0:q=0
  ·have hk2:nH set=r9 set k:=by
    have :=st h0 (16 - k);rw [show k+(16 - k)=16 from by omega] at this;exact this
   have HK:=dw hk2;have HO:=dw hown;have HB:=dw hb;clear ab ls ll st hq hk2 hown hb;subst h0;go_wp2;go_ret;exact ⟨_,rfl,by rw [HK.out];exact HO.out,HP.out,HB.out⟩
  ·have ay9:k<16:=by
    rcases bu k 16 with h|h
    ·exact h
    ·exfalso;obtain rfl:k=16:=by omega
     omega
   have d1:decide ((0:Int)<(q:Int))=true:=by simp;omega
   have Zv:=hb.size;clear hq st
   by_cases h1:bit set k=1
   ·rw [aj h1] at ls;rw [h1] at ab;have LS:=dw ls;have HB:=dw hb;have H1:=dw h1;clear ls hb h1 hbl
    go_wp2_with (first
     |(at_builtin;refine Par.gG rfl _ _ 44 rfl w.heap.size 3 i0 (.int .i64 0) 1 8 Lo.Iw hi hz0 hz1 hz2 rfl (by decide) _ _ _ rfl (hown.alloc _) ⟨wr.heap.size,0,none⟩ 1 1 [.int .i64 (k:Int)] rfl rfl ?c1 ?c2 ?c3 ?c4 ?c5 (HP.out.alloc _) ?c6 ?c7 ?_)
     |go_in)
    case c1=>
     intro j u hj
     match j,hj with
     |0,hj=>simp at hj;subst hj;simp [Addr.add]
    case c2=>intro u hu;simp at hu;subst hu;rfl
    case c3=>unfold maxLen;omega
    case c4=>omega
    case c5=>simp;omega
    case c6=>intro u hu;simp at hu;subst hu;rfl
    case c7=>intro u hu;simp [Value.cells] at hu;subst hu;rfl
    intro v' w1 hown' hgrow _ hp';have Si:=dw hp';clear hp';have R:=(HB.out.alloc Zv (.cells #[.int .i64 (k:Int)] 3)).grown hgrow (by simp;omega) (λj hj=>(hown.lt j hj).1);have RO:=dw hown';clear hown' hgrow hown;go_wp2;go_roundw
    case rel=>exact ⟨k+1,by omega,by go_num,by rw [LS.out];simpa [Ay] using RO.out,Si.out,R⟩
    case measure=>simp [intOf];omega
   ·obtain h0':bit set k=0:=by omega
    rw [aa h1] at ls;rw [h0'] at ab;have LS:=dw ls;have HB:=dw hb;clear ls hb h1 hbl h0';have HO:=dw hown;clear hown;go_wp2;go_roundw
    case rel=>exact ⟨k+1,by omega,by go_num,by rw [LS.out];exact HO.out,HP.out,HB.out⟩
    case measure=>simp [intOf];omega
end
section
variable [Lo.St]
def Az (a b:Int):Int:=if a<b then -1 else if b<a then 1 else 0
theorem Lo.JB (a:Int) (w:World):Calls Lo.prog 91 #[.int .i64 a] w λe w'=>e= .returned (.bool false)∧w'=w:=by
 have U:=Lo.underlying;have U2:=Lo.runUnderlying;have d:decide (a=a)=true:=by simp
 go_enter Lo.func91,Tryz.ntmps91;go_wp2;go_ret;exact ⟨by simp,rfl⟩
theorem Lo.JC (a b:Int) (w:World):Calls Lo.prog 60 #[.int .i64 a,.int .i64 b] w λe w'=>e= .returned (.int .i64 (Az a b))∧w'=w:=by
 have U:=Lo.underlying;have U2:=Lo.runUnderlying;have C:=Lo.call91;unfold Az;rcases Int.lt_trichotomy a b with h|h|h
 ·rw [aj h];have d:decide (a<b)=true:=by simpa using h
  go_enter Lo.func60,Tryz.ntmps60
  go_wp2_with (go_at_call 91;refine (Lo.JB _ _).mono ?_;rintro e w1 ⟨rfl,rfl⟩)
  go_ret;exact ⟨rfl,rfl⟩
 ·subst h;rw [aa (Int.lt_irrefl _),aa (Int.lt_irrefl _)];have d:decide (a<a)=false:=by simp
  go_enter Lo.func60,Tryz.ntmps60
  go_wp2_with (go_at_call 91;refine (Lo.JB _ _).mono ?_;rintro e w1 ⟨rfl,rfl⟩)
  go_ret;exact ⟨rfl,rfl⟩
 ·rw [aa (by omega),aj h];have d:decide (a<b)=false:=by simp;omega
  have d2:decide (b<a)=true:=by simpa using h
  go_enter Lo.func60,Tryz.ntmps60
  go_wp2_with (go_at_call 91;refine (Lo.JB _ _).mono ?_;rintro e w1 ⟨rfl,rfl⟩)
  go_ret;exact ⟨rfl,rfl⟩
end
section
variable [Lo.St]
abbrev BJ (w:World) (B:Nat) (A:Option Addr) (l:List Int):Prop:=Rd w B 1 A l.length λi _=>.int .i64 ((l[i]?).getD 0)
theorem Wd {w:World} {bb off k:Nat} {l:List Int} (hc:∀i j,i<l.length->j<1->w.cell? ⟨bb,off+(i*1+j),none⟩=some (.int .i64 ((l[i]?).getD 0))) (hlt:k<l.length):w.cell? ⟨bb,off+k,none⟩=some (.int .i64 l[k]):=by
 have :=hc k 0 hlt (by omega);rw [Nat.mul_one,aH] at this;rw [this,aO hlt];rfl
theorem ownsRow.Wd {w:World} {base n B:Nat} {v:Value} {l:List Int} (h:w.ownsRow base 3 1 v n (l.map λx=>.int .i64 x)):∃A cap,v= .slice A n cap∧n=l.length∧(w.heap.size<=B->BJ w B A l):=by
 obtain ⟨hl,h⟩:=h;have hn:n=l.length:=by simpa using hl.symm
 rcases h with ⟨rfl,rfl⟩|⟨g,cap,cur,rfl,hb,hg,h1,h2,h3,h4⟩
 ·exact ⟨none,0,rfl,hn, λ_ h=>absurd h (by omega)⟩
 ·refine ⟨_,cap,rfl,hn, λhB _=>⟨g,0,rfl,aK (aI.1 hg).1 hB, λi j hi hj=>?_⟩⟩;obtain rfl:j=0:=by omega
  have e:(cur.toList.take (n*1))[i]?=some (.int .i64 ((l[i]?).getD 0)):=by
   rw [h4];simp [hi]
  rw [List.getElem?_take] at e;split at e
  ·unfold World.cell?;simp only [hg];simpa using e
  ·cases e
def lF:List Int->List Int->Int
 | [],[]=>0
 | [],_::_=> -1
 |_::_,[]=>1
 |a::x,b::y=>if Az a b=0 then lF x y else Az a b
theorem KI {l m:List Int} {k:Nat} (h1:k<l.length) (h2:k<m.length):lF (l.drop k) (m.drop k)=if Az l[k] m[k]=0 then lF (l.drop (k+1)) (m.drop (k+1)) else Az l[k] m[k]:=by
 rw [aW h1,aW h2];rfl
theorem KJ {l m:List Int} {k:Nat} (h1:k<l.length) (h2:m.length<=k):lF (l.drop k) (m.drop k)=1:=by
 rw [aW h1,List.drop_of_length_le h2];rfl
theorem MZ {l m:List Int} {k:Nat} (h1:l.length<=k):lF (l.drop k) (m.drop k)=if k<m.length then -1 else 0:=by
 rw [List.drop_of_length_le h1];split
 ·rename_i h;rw [aW h];rfl
 ·rename_i h;rw [List.drop_of_length_le (by omega)];rfl
theorem Lo.Wu {w:World} {B:Nat} {A1 A2:Option Addr} {l1 l2:List Int} {c1 c2:Nat} (h1:BJ w B A1 l1) (h2:BJ w B A2 l2) (hl1:l1.length<=64) (hl2:l2.length<=64):
 Calls Lo.prog 61 #[.slice A1 l1.length c1,.slice A2 l2.length c2] w λe w'=>e= .returned (.int .i64 (lF l1 l2))∧w'=w:=by
 obtain ⟨U,U2,U3,U4,U5,U6⟩:=Lo.facts;have C:=Lo.call60;go_enter Lo.func61,Tryz.ntmps61;go_wp2
 go_loopw [11] (λi wr=>∃k:Nat,k<=l1.length∧k<=l2.length∧i= .int .i64 (k:Int)∧lF (l1.drop k) (l2.drop k)=lF l1 l2∧wr=w) (λi _=>l1.length - (intOf i).toNat)
 case atStart=>exact ⟨0,bn _,bn _,rfl,rfl,rfl⟩
 case round=>
  obtain ⟨k,hk,hk2,rfl,hx,rfl⟩:=hrel
  by_cases hlt:k<l1.length
  ·have hlt':(k:Int)<(l1.length:Int):=by omega
   obtain ⟨b1,o1,rfl,hb1,hc1⟩:=h1 (by omega);have r1:=Wd hc1 hlt
   by_cases hlt2:k<l2.length
   ·have aj2:(k:Int)<(l2.length:Int):=by omega
    have d2:decide ((l2.length:Int)<=(k:Int))=false:=by simp;omega
    obtain ⟨b2,o2,rfl,hb2,hc2⟩:=h2 (by omega);have r2:=Wd hc2 hlt2;have hd:=KI hlt hlt2;rw [hx] at hd;clear hc1 hc2 h1 h2 hx;generalize l1[k]=x at r1 hd;generalize l2[k]=y at r2 hd
    by_cases hq:Az x y=0
    ·rw [aj hq] at hd;have d3:(Az x y==0)=true:=by simpa using hq
     have HD:=dw hd;clear hd
     go_wp2_with (go_at_call 60;refine (Lo.JC _ _ _).mono ?_;rintro e w1 ⟨rfl,rfl⟩)
     go_roundw
     case rel=>exact ⟨k+1,by omega,by omega,by go_num,HD.out.symm,by simp⟩
     case measure=>simp [intOf];omega
    ·rw [aa hq] at hd;have d3:(Az x y==0)=false:=by simpa using hq
     have HD:=dw hd;clear hd
     go_wp2_with (go_at_call 60;refine (Lo.JC _ _ _).mono ?_;rintro e w1 ⟨rfl,rfl⟩)
     go_ret;exact ⟨by rw [HD.out];rfl,rfl⟩
   ·have d2:decide ((l2.length:Int)<=(k:Int))=true:=by simp;omega
    rw [KJ hlt (by omega)] at hx;have HX:=dw hx;clear hc1 h1 h2 hx;go_wp2;go_ret;exact ⟨by rw [<-HX.out];rfl,rfl⟩
  ·obtain rfl:k=l1.length:=by omega
   rw [MZ (aJ _)] at hx
   by_cases hq:l1.length<l2.length
   ·rw [aj hq] at hx;have d2:decide ((l1.length:Int)<(l2.length:Int))=true:=by simp;omega
    have HX:=dw hx;clear hx;go_wp2;go_ret;exact ⟨by rw [<-HX.out];rfl,rfl⟩
   ·rw [aa hq] at hx;have d2:decide ((l1.length:Int)<(l2.length:Int))=false:=by simp;omega
    have HX:=dw hx;clear hx;go_wp2;go_ret;exact ⟨by rw [<-HX.out];rfl,rfl⟩
def orI (a b:Int):Int:=if a=0 then b else a
theorem Lo.JD {w:World} {bb off:Nat} {a b:Int} {cap:Nat} (h1:w.cell? ⟨bb,off,none⟩=some (.int .i64 a)) (h2:w.cell? ⟨bb,off+1,none⟩=some (.int .i64 b)):
 Calls Lo.prog 59 #[.slice (some ⟨bb,off,none⟩) 2 cap] w λe w'=>e= .returned (.int .i64 (orI a b))∧w'=w:=by
 obtain ⟨U,U2,U3,U4,U5,U6⟩:=Lo.facts;unfold orI
 by_cases ha:a=0
 ·rw [aj ha];subst ha
  by_cases hb:b=0
  ·subst hb;go_enter Lo.func59,Tryz.ntmps59;go_wp2;refine wp_loop_rounds 3 ?_
   rw [rounds_succ];go_wp2
   rw [rounds_succ];go_wp2
   rw [rounds_succ];go_wp2
   go_ret;exact ⟨rfl,rfl⟩
  ·have d:(b==0)=false:=by simpa using hb
   go_enter Lo.func59,Tryz.ntmps59;go_wp2;refine wp_loop_rounds 2 ?_
   rw [rounds_succ];go_wp2
   rw [rounds_succ];go_wp2
   go_ret;exact ⟨rfl,rfl⟩
 ·rw [aa ha];have d:(a==0)=false:=by simpa using ha
  go_enter Lo.func59,Tryz.ntmps59;go_wp2;refine wp_loop_rounds 1 ?_
  rw [rounds_succ];go_wp2
  go_ret;exact ⟨rfl,rfl⟩
end
section
variable [Lo.St]
theorem Lo.mixed:Lo.prog.follows .mixedOrders=true:=by rw [Lo.jB];show Tryz.prog.follows .mixedOrders=true;kernel_rfl
def nL (l:List Int) (m:Bool) (steps:List Int) (fu found:Bool):Bool:=
 let c:=orI (Az l.length steps.length) (lF l steps)
 if !found||decide (c<0) then true else if c=0 then fu&&!m else false
theorem Lo.M0 {w:World} {B bs bf bm:Nat} {A1 A2:Option Addr} {l st:List Int} {c1 c2:Nat} {m fu found:Bool} (h1:BJ w B A1 l) (h2:BJ w B A2 st) (hl1:l.length<=64) (hl2:st.length<=64)
 (hs:w.cell? ⟨bs,0,none⟩=some (.slice A2 st.length c2)) (hf:w.cell? ⟨bf,0,none⟩=some (.bool found)) (hm:w.cell? ⟨bm,0,none⟩=some (.bool fu)) (hB:B<=w.heap.size) (hbf:bf<w.heap.size) (hbm:bm<w.heap.size):
 Calls Lo.prog 58 #[.slice A1 l.length c1,.bool m,.pointer (some ⟨bs,0,none⟩),.pointer (some ⟨bf,0,none⟩),.pointer (some ⟨bm,0,none⟩)] w λe w'=>e= .returned (.bool (nL l m st fu found))∧Below w.heap.size w w':=by
 obtain ⟨U,U2,U3,U4,U5,U6⟩:=Lo.facts;have C:=Lo.call59;have C2:=Lo.call60;have C3:=Lo.call61;generalize hr:nL l m st fu found=r;unfold nL at hr;have HR:=dw hr;clear hr;go_enter Lo.func58,Tryz.ntmps58
 go_wp2_with fail
 go_still_tail 8,Lo.mixed
 still_call ((Lo.JC _ _ _).mono (by rintro e w1 ⟨rfl,rfl⟩;exact ⟨rfl,rfl⟩))
 repeat still_step
 have k1:BJ w.drew B A1 l:=h1.keep λ_ _ _=>rfl
 have k2:BJ w.drew B A2 st:=h2.keep λ_ _ _=>rfl
 still_call ((Lo.Wu k1 k2 hl1 hl2).mono (by rintro e w1 ⟨rfl,rfl⟩;exact ⟨rfl,rfl⟩))
 refine wpStill_nil ?_
 change wpList _ _ _ _ _ w.drew;have hf2:w.drew.cell? ⟨bf,0,none⟩=some (.bool found):=hf;have hm2:w.drew.cell? ⟨bm,0,none⟩=some (.bool fu):=hm;have hbw:Below w.heap.size w w.drew:=(di _ _).drew;have az0:bf<w.drew.heap.size:=hbf;have az1:bm<w.drew.heap.size:=hbm;have hsz:w.heap.size<=w.drew.heap.size:=aJ _;clear k1 k2 h1 h2 hs hf hm hbf hbm hB;generalize w.drew=w2 at *;have hr:=HR.out;clear HR;generalize hx:Az l.length st.length=x at hr ⊢;generalize hy:lF l st=y at hr ⊢;have HB:=dw (hbw.alloc hsz (.cells #[.int .i64 x,.int .i64 y] 3));clear hx hy hbw hsz;generalize hc:orI x y=c at hr;have HR:=dw hr;clear hr;cases found with
 |false=>
  go_wp2_with (go_at_call 59;refine (Lo.JD (a:=x) (b:=y) (by simp) (by simp)).mono ?_;rintro e w3 ⟨rfl,rfl⟩;rw [hc])
  go_ret;exact ⟨by rw [<-HR.out];simp,HB.out⟩
 |true=>
  rcases Int.lt_trichotomy c 0 with h|h|h
  ·have d:decide (c<0)=true:=by simpa using h
   go_wp2_with (go_at_call 59;refine (Lo.JD (a:=x) (b:=y) (by simp) (by simp)).mono ?_;rintro e w3 ⟨rfl,rfl⟩;rw [hc])
   go_ret;exact ⟨by rw [<-HR.out];simp [h],HB.out⟩
  ·subst h;cases fu
   all_goals
    go_wp2_with (go_at_call 59;refine (Lo.JD (a:=x) (b:=y) (by simp) (by simp)).mono ?_;rintro e w3 ⟨rfl,rfl⟩;rw [hc])
    go_ret;exact ⟨by rw [<-HR.out];simp,HB.out⟩
  ·have d:decide (c<0)=false:=by simp;omega
   have d2:(c==0)=false:=by simp;omega
   have hne:¬c=0:=by omega
   go_wp2_with (go_at_call 59;refine (Lo.JD (a:=x) (b:=y) (by simp) (by simp)).mono ?_;rintro e w3 ⟨rfl,rfl⟩;rw [hc])
   go_ret;exact ⟨by rw [<-HR.out];simp [hne];omega,HB.out⟩
end
section
variable [Lo.St]
theorem Lo.YC:Lo.prog.underlying 29=some (.slice 51):=(Lo.underlying 29).trans (by kernel_rfl)
theorem Lo.Sj:(Lo.prog.info? 51).map (λi=>(i.zero,i.size,i.bytes))=some (some (.agg #[.int .i64 0,.int .i64 0]),2,16):=by
 rw [Lo.info];kernel_rfl
def jl (o:List Int):List Value:=o.map λx=>.int .i64 x
def tH (ss:List fI):Nat->List Int
 |0=>[]
 |k+1=>tH ss k++match ss[k]? with |some x=>[x.lo,x.hi]|none=>[]
def AA (ss:List fI) (s:Nat) (o:List Int) (k:Nat):List Int:=
 match ss[k]? with
 |none=>o
 |some x=>
  if nG s x.fr x.to=1 then o.set (2*k) (max ((o[2*k]?).getD 0) (gQ ss s+x.hi))
  else if nG s x.fr x.to=2 then o.set (2*k+1) (min ((o[2*k+1]?).getD 0) (x.lo - gQ ss s)) else o
def yo (ss:List fI) (s:Nat) (o:List Int):Nat->List Int
 |0=>o
 |k+1=>AA ss s (yo ss s o k) k
def si (ss:List fI):Nat->List Int
 |0=>tH ss ss.length
 |m+1=>yo ss m (si ss m) ss.length
def pO (ss:List fI) (nd:Nat):List Int:=si ss (2 ^ nd)
theorem E9 (ss:List fI):∀k,k<=ss.length->(tH ss k).length=2*k
 |0,_=>rfl
 |k+1,h=>by
  unfold tH;rw [aO h,List.length_append,E9 ss k (by omega)];simp;omega
theorem M3 (ss:List fI) (s:Nat) (o:List Int) (k:Nat):(AA ss s o k).length=o.length:=by
 unfold AA;split
 ·rfl
 ·split
  ·simp
  ·split<;>simp
theorem CV (ss:List fI) (s:Nat) (o:List Int):∀k,(yo ss s o k).length=o.length
 |0=>rfl
 |k+1=>by unfold yo;rw [M3,CV ss s o k]
theorem uC (ss:List fI):∀m,(si ss m).length=2*ss.length
 |0=>E9 ss _ (aJ _)
 |m+1=>by unfold si;rw [CV,uC ss m]
def Sk (o:List Int):Prop:=∀x∈o, -600000000<=x∧x<=600000000
theorem KL (ss:List fI) (h:∀x∈ss,x.ok):∀k,Sk (tH ss k)
 |0=> λ_ h=>by simp [tH] at h
 |k+1=> λy hy=>by
  unfold tH at hy;rcases List.mem_append.1 hy with hy|hy
  ·exact KL ss h k y hy
  ·cases hx:ss[k]? with
   |none=>rw [hx] at hy;simp at hy
   |some x=>
    rw [hx] at hy;obtain ⟨a,b,c,d,_⟩:=h x (List.mem_of_getElem? hx);simp at hy;rcases hy with rfl|rfl<;>omega
theorem Sk.get {o:List Int} (h:Sk o) (k:Nat): -600000000<=(o[k]?).getD 0∧(o[k]?).getD 0<=600000000:=by
 cases hx:o[k]? with
 |none=>simp
 |some x=>exact h x (List.mem_of_getElem? hx)
theorem Sk.set {o:List Int} (h:Sk o) (k:Nat) {v:Int} (hv: -600000000<=v∧v<=600000000):Sk (o.set k v):= λx hx=>by
 rcases List.mem_or_eq_of_mem_set hx with hx|rfl
 ·exact h x hx
 ·exact hv
theorem Sq (ss:List fI) (h:∀x∈ss,x.ok) (hl:ss.length<=64) (s:Nat) {o:List Int} (ho:Sk o) (k:Nat):Sk (AA ss s o k):=by
 have hs:=Ip ss s h hl;unfold AA;split
 ·exact ho
 ·rename_i x hx;obtain ⟨a,b,c,d,_⟩:=h x (List.mem_of_getElem? hx);have g1:=ho.get (2*k);have g2:=ho.get (2*k+1);split
  ·exact ho.set _ (by omega)
  ·split
   ·exact ho.set _ (by omega)
   ·exact ho
theorem JE (ss:List fI) (h:∀x∈ss,x.ok) (hl:ss.length<=64) (s:Nat) {o:List Int} (ho:Sk o):∀k,Sk (yo ss s o k)
 |0=>ho
 |k+1=>Sq ss h hl s (JE ss h hl s ho k) k
theorem KN (ss:List fI) (h:∀x∈ss,x.ok) (hl:ss.length<=64):∀m,Sk (si ss m)
 |0=>KL ss h _
 |m+1=>JE ss h hl m (KN ss h hl m) _
theorem ownsRow.below {w w2:World} {base e size n:Nat} {v:Value} {xs:List Value} (h:w.ownsRow base e size v n xs) (hb:Below w.heap.size w w2):w2.ownsRow base e size v n xs:=by
 obtain ⟨h1,h2⟩:=h;refine ⟨h1,h2.imp id ?_⟩;rintro ⟨g,cap,cur,a,b,c,d⟩;exact ⟨g,cap,cur,a,b,(hb.block g (aI.1 c).1).trans c,d⟩
theorem ownsRow.shape {w:World} {base e size n:Nat} {v:Value} {xs:List Value} (h:w.ownsRow base e size v n xs) (hn:0<n):∃g cap,v= .slice (some ⟨g,0,none⟩) n cap∧base<=g∧g<w.heap.size:=by
 rcases h.2 with ⟨_,rfl⟩|⟨g,cap,cur,a,b,c,d⟩
 ·omega
 ·exact ⟨g,cap,a,b,(aI.1 c).1⟩
theorem xC (o:List Int) {k:Nat} (h:k<o.length):(jl o)[k]?=some (.int .i64 ((o[k]?).getD 0)):=by
 unfold jl;rw [List.getElem?_map,aO h];rfl
theorem Fa (o:List Int) (k:Nat) (x:Int):(jl o).set k (.int .i64 x)=jl (o.set k x):=by
 unfold jl;rw [List.map_set]
theorem Lo.Qc {w:World} {B b:Nat} {ss:List fI} {st nd:Nat} {A:Option Addr} {cap:Nat} (hw:lV w B b ss st nd A cap) (hB:B<=w.heap.size) (hnd:nd<=16):
 Calls Lo.prog 79 #[.pointer (some ⟨b,0,none⟩)] w λe w'=>∃v,e= .returned v∧w'.ownsRow w.heap.size 51 2 v ss.length (jl (pO ss nd))∧Par.eP w' v∧Below w.heap.size w w':=by
 obtain ⟨U,U2,U3,U4,U5,U6⟩:=Lo.facts;have C:=Lo.call90;have C2:=Lo.call117;obtain ⟨i0,hi,hz0,hz1,hz2⟩:=info_parts Lo.Sj;have hlen:=hw.len;have c0:=hw.c0;go_enter Lo.func79,Tryz.ntmps79;go_wp2
 go_loopw [3,15] (λv i wr=>∃k:Nat,k<=ss.length∧i= .int .i64 (k:Int)∧wr.ownsRow w.heap.size 51 2 v k (jl (tH ss k))∧Par.eP wr v∧Below w.heap.size w wr) (λ_ i _=>ss.length - (intOf i).toNat)
 case atStart=>exact ⟨0,bn _,rfl,by simpa [tH,jl] using World.ownsRow_nil w w.heap.size 51 2,Par.eP.nil _,di _ _⟩
 case round=>
  obtain ⟨k,hk,rfl,hown,hpl,hb⟩:=hrel;have HP:=dw hpl;clear hpl
  by_cases hlt:k<ss.length
  ·have hlt':(k:Int)<(ss.length:Int):=by omega
   obtain ⟨bb,off,rfl,hbb,hc⟩:=(hw.rd.keep (λb o h=>dU hb b o (by omega))) (by omega);obtain ⟨k0,k1,k2,k3⟩:=Jz (B:=B) hc hlt
   have hin:tH ss (k+1)=tH ss k++ [ss[k].lo,ss[k].hi]:=by
    show tH ss k++_=_;rw [aO hlt]
   generalize ss[k]=x at hin k0 k1 k2 k3;obtain ⟨lo,hi',fr,to⟩:=x;simp only at hin k0 k1 k2 k3;have Zv:=hb.size;have HB:=dw hb;have HI:=dw hin;clear hb hc hin c0
   go_wp2_with (first
    |(at_builtin;refine Par.gG rfl _ _ 29 rfl w.heap.size 51 i0 (.agg #[.int .i64 0,.int .i64 0]) 2 16 Lo.YC hi hz0 hz1 hz2 rfl (by decide) _ _ _ rfl ((hown.alloc _).alloc _) ⟨wr.heap.size+1,0,none⟩ 1 1 [.int .i64 lo,.int .i64 hi'] rfl rfl ?c1 ?c2 ?c3 ?c4 ?c5 ((HP.out.alloc _).alloc _) ?c6 ?c7 ?_)
    |go_in)
   case c1=>
    intro j u hj
    match j,hj with
    |0,hj=>simp at hj;subst hj;simp [Addr.add]
    |1,hj=>simp at hj;subst hj;simp [Addr.add]
   case c2=>intro u hu;simp at hu;rcases hu with rfl|rfl<;>rfl
   case c3=>unfold maxLen;omega
   case c4=>omega
   case c5=>simp;omega
   case c6=>intro u hu;simp at hu;rcases hu with rfl|rfl<;>rfl
   case c7=>intro u hu;simp [Value.cells] at hu;subst hu;rfl
   intro v' w1 hown' hgrow _ hp';have Si:=dw hp';clear hp';have R:=((HB.out.alloc Zv _).alloc (by simp;omega) _).grown hgrow (by simp;omega) (λj hj=>(hown.lt j hj).1);have RO:=dw hown';clear hown' hgrow hown;go_wp2;go_roundw
   case rel=>exact ⟨k+1,by omega,by go_num,by rw [HI.out];simpa [jl] using RO.out,Si.out,R⟩
   case measure=>simp [intOf];omega
  ·obtain rfl:k=ss.length:=by omega
   have Zv:=hb.size;have hsh:=zu nd (by omega);have hp:(2:Nat) ^ nd<=65536:=Nat.pow_le_pow_right (n:=2) (by decide) hnd;have c2:=(dU hb _ _ (aK hw.lt hB)).trans hw.c2;go_wp2;rw [show ((2:Int) ^ nd)=((2 ^ nd:Nat):Int) from by simp];generalize hm:2 ^ nd=m at hp;clear hsh c2 c0
   go_loopw [35] (λi wq=>∃k:Nat,k<=m∧i= .int .u64 (k:Int)∧wq.ownsRow w.heap.size 51 2 u3 ss.length (jl (si ss k))∧Par.eP wq u3∧Below w.heap.size w wq) (λi _=>m - (intOf i).toNat)
   case atStart=>exact ⟨0,bn _,rfl,hown,HP.out,hb⟩
   case round=>
    obtain ⟨k,hk,rfl,hown,hpl,hb⟩:=hrel;have HP1:=dw hpl;clear hpl HP
    by_cases hlt:k<m
    ·have hlt':(k:Int)<(m:Int):=by omega
     have hwk:=hw.keep (λb o h=>dU hb b o (by omega));have hBk:B<=wr.heap.size:=aT hB hb.size;have P6:k<2 ^ 63:=by omega
     have HB:=dw hb;have HO:=dw hown;have c0:=hwk.c0;clear hb hown
     go_wp2_with (go_at_call 90;refine (Lo.wE hwk hBk k P6).mono ?_;rintro e w2 ⟨rfl,hb2⟩;have c0':=(dU hb2 _ _ (aK hw.lt hBk)).trans hwk.c0)
     have hb3:=HB.out.trans (hb2.mono HB.out.size);have HP2:=dw (HP1.out.keep λg hg=>hb2.block g (HO.out.lt g hg).2);have hown3:w2.ownsRow w.heap.size 51 2 u3 ss.length (jl (yo ss k (si ss k) 0)):=ownsRow.below HO.out hb2;clear c0 c0' hwk hBk hb2 HB HO
     go_loopw [46] (λi wq=>∃j:Nat,j<=ss.length∧i= .int .i64 (j:Int)∧wq.ownsRow w.heap.size 51 2 u3 ss.length (jl (yo ss k (si ss k) j))∧Par.eP wq u3∧Below w.heap.size w wq) (λi _=>ss.length - (intOf i).toNat)
     case atStart=>exact ⟨0,bn _,rfl,hown3,HP2.out,hb3⟩
     case round=>
      obtain ⟨j,hj,rfl,hown,hpl,hb⟩:=hrel;have HP:=dw hpl;clear hpl
      by_cases hjl:j<ss.length
      ·have Sr:(j:Int)<(ss.length:Int):=by omega
       obtain ⟨bb,off,rfl,hbb,hc⟩:=(hw.rd.keep (λb o h=>dU hb b o (by omega))) (by omega);obtain ⟨k0,k1,k2,k3⟩:=Jz (B:=B) hc hjl;have hx:=hw.ok ss[j] (aY hjl);have hsa:=Ip ss k hw.ok hw.len;have hrow:yo ss k (si ss k) (j+1)=AA ss k (yo ss k (si ss k) j) j:=rfl;have hob:=JE ss hw.ok hw.len k (KN ss hw.ok hw.len k) j;have hol:(yo ss k (si ss k) j).length=2*ss.length:=by rw [CV,uC]
       unfold AA at hrow;rw [aO hjl] at hrow;simp only at hrow;generalize yo ss k (si ss k) j=o at hrow hob hol hown;generalize ho':yo ss k (si ss k) (j+1)=o' at hrow;have Wv:=dw ho';clear ho';generalize ss[j]=x at hrow hx k0 k1 k2 k3;obtain ⟨lo,hi',fr,to⟩:=x;obtain ⟨x1,x2,x3,x4,x5,x6⟩:=hx;simp only at hrow x1 x2 x3 x4 x5 x6 k0 k1 k2 k3;generalize gQ ss k=n at *;obtain ⟨g,M4,rfl,hg1,hg2⟩:=ownsRow.shape hown (by omega);have hg0:=hob.get (2*j);have hg9:=hob.get (2*j+1);have e0:=xC o (k:=2*j) (by omega);have e1:=xC o (k:=2*j+1) (by omega);generalize (o[2*j]?).getD 0=a0 at *;generalize (o[2*j+1]?).getD 0=a1 at *;have hbs:=hb.size;have hks:k<2 ^ 63:=by omega
       have HOW:=dw hown;have HB:=dw hb;have HC0:=dw ((HOW.out.cellAt (2*j) (by omega)).trans e0);have HC1:=dw ((HOW.out.cellAt (2*j+1) (by omega)).trans e1);have HF:=dw (HOW.out.frozenAt);clear hown hb hc e0 e1 hob
       have hq:nG k fr to=1∨nG k fr to=2∨nG k fr to=0:=by
        unfold nG;split
        ·exact .inl rfl
        ·split
         ·exact .inr (.inl rfl)
         ·exact .inr (.inr rfl)
       rcases hq with hq|hq|hq
       ·rw [aj hq] at hrow;have HQ:=dw hq;have HR:=dw hrow;clear hq hrow
        go_wp2_with (go_at_call 117;refine (Lo.OG _ _ _ _ _ _ _ x5 x6 hks HQ.out).mono ?_;rintro e w4 ⟨rfl,hb4⟩)
        have hold:∀y,y<wr.heap.size->w4.heap[y]?=wr.heap[y]?:= λy hy=>(hb4.block y (by simp;omega)).trans (cZ _ _ _ hy)
        have DZ:w4.ownsRow w.heap.size 51 2 (.slice (some ⟨g,0,none⟩) ss.length M4) ss.length (jl o):=ownsRow.below (HOW.out.alloc _) hb4;have zO:Below w.heap.size w w4:=(HB.out.alloc hbs _).trans (hb4.mono (by simp;omega))
        have k9:∀i:Nat,w4.cell? ⟨wr.heap.size,i,none⟩=(#[.int .i64 lo,.int .i64 hi',.int .i64 (fr:Int),.int .i64 (to:Int)]:Array Value)[i]?:= λi=>by
         rw [dm (w:=wr.alloc (.cells #[.int .i64 lo,.int .i64 hi',.int .i64 (fr:Int),.int .i64 (to:Int)] 142)) (hb4.block wr.heap.size (by simp)),cO _ _ _ _ rfl]
        have k90:w4.cell? ⟨wr.heap.size,0,none⟩=some (.int .i64 lo):=k9 0;have k91:w4.cell? ⟨wr.heap.size,1,none⟩=some (.int .i64 hi'):=k9 1
        have kg:w4.cell? ⟨g,j*2+0,none⟩=some (.int .i64 a0):=by
         rw [show j*2+0=2*j+0 from by omega,dm (w:=wr) (hold g hg2)];exact HC0.out
        have kf:w4.frozen? ⟨g,j*2+0,none⟩=false:=by rw [World.frozen?_of_block (w:=wr) (hold g hg2)];exact HF.out _
        have Zx:=dw ((HP.out.alloc (.cells #[.int .i64 lo,.int .i64 hi',.int .i64 (fr:Int),.int .i64 (to:Int)] 142)).keep λg' hg'=>hb4.block g' (by have :=(HOW.out.lt g' hg').2;simp;omega));have Zy:=dw DZ;have Zz:=dw zO;clear hold k9 DZ zO hb4 k0 k1 k2 k3
        try simp only [aH] at kg kf
        go_still_tail 13,Lo.mixed
        change wpList _ _ _ _ _ w4.drew;have kf':w4.drew.frozen? ⟨g,j*2,none⟩=false:=kf;have kg':w4.drew.cell? ⟨g,j*2,none⟩=some (.int .i64 a0):=kg;have HO5:Hid (w4.drew.ownsRow w.heap.size 51 2 (.slice (some ⟨g,0,none⟩) ss.length M4) ss.length (jl o)):=Zy;have Hq:Below w.heap.size w w4.drew:=Zz.out.drew;have HP5:Hid (Par.eP w4.drew (.slice (some ⟨g,0,none⟩) ss.length M4)):=Zx;have KO:=dw Hq;clear Zx;clear Hq Zy Zz kf kg;generalize w4.drew=w5 at *;go_wp2;go_roundw
        case rel=>
         refine ⟨j+1,by omega,by go_num,?_,HP5.out.setCell rfl,KO.out.setCell (by show w.heap.size<=g;omega) _⟩;have hv:(if a0<n+hi' then n+hi' else a0)=max a0 (n+hi'):=by split<;>omega
         have :=(HO5.out.stored (2*j) (.int .i64 (max a0 (n+hi')))).1;rw [Fa, <-HR.out, <-Wv.out] at this;rw [show j*2=2*j from Nat.mul_comm _ _]
         first |exact this|(rw [hv];exact this)
        case measure=>simp [intOf];omega
       ·rw [aa (by omega),aj hq] at hrow;have HQ:=dw hq;have HR:=dw hrow;clear hq hrow
        go_wp2_with (go_at_call 117;refine (Lo.OG _ _ _ _ _ _ _ x5 x6 hks HQ.out).mono ?_;rintro e w4 ⟨rfl,hb4⟩)
        have hold:∀y,y<wr.heap.size->w4.heap[y]?=wr.heap[y]?:= λy hy=>(hb4.block y (by simp;omega)).trans (cZ _ _ _ hy)
        have DZ:w4.ownsRow w.heap.size 51 2 (.slice (some ⟨g,0,none⟩) ss.length M4) ss.length (jl o):=ownsRow.below (HOW.out.alloc _) hb4;have zO:Below w.heap.size w w4:=(HB.out.alloc hbs _).trans (hb4.mono (by simp;omega))
        have k9:∀i:Nat,w4.cell? ⟨wr.heap.size,i,none⟩=(#[.int .i64 lo,.int .i64 hi',.int .i64 (fr:Int),.int .i64 (to:Int)]:Array Value)[i]?:= λi=>by
         rw [dm (w:=wr.alloc (.cells #[.int .i64 lo,.int .i64 hi',.int .i64 (fr:Int),.int .i64 (to:Int)] 142)) (hb4.block wr.heap.size (by simp)),cO _ _ _ _ rfl]
        have k90:w4.cell? ⟨wr.heap.size,0,none⟩=some (.int .i64 lo):=k9 0;have k91:w4.cell? ⟨wr.heap.size,1,none⟩=some (.int .i64 hi'):=k9 1
        have kg:w4.cell? ⟨g,j*2+1,none⟩=some (.int .i64 a1):=by
         rw [show j*2+1=2*j+1 from by omega,dm (w:=wr) (hold g hg2)];exact HC1.out
        have kf:w4.frozen? ⟨g,j*2+1,none⟩=false:=by rw [World.frozen?_of_block (w:=wr) (hold g hg2)];exact HF.out _
        have Zx:=dw ((HP.out.alloc (.cells #[.int .i64 lo,.int .i64 hi',.int .i64 (fr:Int),.int .i64 (to:Int)] 142)).keep λg' hg'=>hb4.block g' (by have :=(HOW.out.lt g' hg').2;simp;omega));have Zy:=dw DZ;have Zz:=dw zO;clear hold k9 DZ zO hb4 k0 k1 k2 k3
        try simp only [aH] at kg kf
        go_still_tail 13,Lo.mixed
        change wpList _ _ _ _ _ w4.drew;have kf':w4.drew.frozen? ⟨g,j*2+1,none⟩=false:=kf;have kg':w4.drew.cell? ⟨g,j*2+1,none⟩=some (.int .i64 a1):=kg;have HO5:Hid (w4.drew.ownsRow w.heap.size 51 2 (.slice (some ⟨g,0,none⟩) ss.length M4) ss.length (jl o)):=Zy;have Hq:Below w.heap.size w w4.drew:=Zz.out.drew;have HP5:Hid (Par.eP w4.drew (.slice (some ⟨g,0,none⟩) ss.length M4)):=Zx;have KO:=dw Hq;clear Zx;clear Hq Zy Zz kf kg;generalize w4.drew=w5 at *;go_wp2;go_roundw
        case rel=>
         refine ⟨j+1,by omega,by go_num,?_,HP5.out.setCell rfl,KO.out.setCell (by show w.heap.size<=g;omega) _⟩;have hv:(if lo - n<a1 then lo - n else a1)=min a1 (lo - n):=by split<;>omega
         have :=(HO5.out.stored (2*j+1) (.int .i64 (min a1 (lo - n)))).1;rw [Fa, <-HR.out, <-Wv.out] at this;rw [show j*2=2*j from Nat.mul_comm _ _]
         first |exact this|(rw [hv];exact this)
        case measure=>simp [intOf];omega
       ·rw [aa (by omega),aa (by omega)] at hrow;have HQ:=dw hq;have HR:=dw hrow;clear hq hrow
        go_wp2_with (go_at_call 117;refine (Lo.OG _ _ _ _ _ _ _ x5 x6 hks HQ.out).mono ?_;rintro e w4 ⟨rfl,hb4⟩)
        have DZ:w4.ownsRow w.heap.size 51 2 (.slice (some ⟨g,0,none⟩) ss.length M4) ss.length (jl o):=ownsRow.below (HOW.out.alloc _) hb4;have zO:Below w.heap.size w w4:=(HB.out.alloc hbs _).trans (hb4.mono (by simp;omega));have Zx:=dw ((HP.out.alloc (.cells #[.int .i64 lo,.int .i64 hi',.int .i64 (fr:Int),.int .i64 (to:Int)] 142)).keep λg' hg'=>hb4.block g' (by have :=(HOW.out.lt g' hg').2;simp;omega));have Zy:=dw DZ;have Zz:=dw zO;clear DZ zO hb4;go_roundw
        case rel=>exact ⟨j+1,by omega,by go_num,by rw [Wv.out,HR.out];exact Zy.out,Zx.out,Zz.out⟩
        case measure=>simp [intOf];omega
      ·obtain rfl:j=ss.length:=by omega
       go_wp2;go_roundw
       case rel=>exact ⟨k+1,by omega,by go_num,hown,HP.out,hb⟩
       case measure=>simp [intOf];omega
    ·obtain rfl:k=m:=by omega
     go_wp2;go_ret;exact ⟨_,rfl,by unfold pO;rw [hm];exact hown,HP1.out,hb⟩
end
section
variable [Lo.St]
def fO (lo hi a b:Int):Bool:=decide (a<=lo)&&decide (lo<=hi)&&decide (hi<=b)
theorem Lo.lG (lo hi a b:Int) (w:World):Calls Lo.prog 50 #[.agg #[.int .i64 lo,.int .i64 hi],.int .i64 a,.int .i64 b] w λe w'=>e= .returned (.bool (fO lo hi a b))∧Below w.heap.size w w':=by
 obtain ⟨U,U2,U3,U4,U5,U6⟩:=Lo.facts;unfold fO
 by_cases h1:a<=lo
 ·have d1:decide (a<=lo)=true:=by simpa using h1
  by_cases h2:lo<=hi
  ·have d2:decide (lo<=hi)=true:=by simpa using h2
   go_enter Lo.func50,Tryz.ntmps50;go_wp2;go_ret;exact ⟨by simp [d1,d2],(di _ _).alloc (aJ _) _⟩
  ·have d2:decide (lo<=hi)=false:=by simpa using h2
   go_enter Lo.func50,Tryz.ntmps50;go_wp2;go_ret;exact ⟨by simp [d1,d2],(di _ _).alloc (aJ _) _⟩
 ·have d1:decide (a<=lo)=false:=by simpa using h1
  go_enter Lo.func50,Tryz.ntmps50;go_wp2;go_ret;exact ⟨by simp [d1],(di _ _).alloc (aJ _) _⟩
abbrev OI (w:World) (B:Nat) (A:Option Addr) (l:List ByteArray):Prop:=Rd w B 1 A l.length λi _=>.string ((l[i]?).getD ByteArray.empty)
theorem M5 {w:World} {bb off k:Nat} {l:List ByteArray} (hc:∀i j,i<l.length->j<1->w.cell? ⟨bb,off+(i*1+j),none⟩=some (.string ((l[i]?).getD ByteArray.empty))) (hlt:k<l.length):w.cell? ⟨bb,off+k,none⟩=some (.string l[k]):=by
 have :=hc k 0 hlt (by omega);rw [Nat.mul_one,aH] at this;rw [this,aO hlt];rfl
def JF (s:ByteArray):List ByteArray->Nat->Int
 | [],_=> -1
 |x::l,k=>if s.toList=x.toList then (k:Int) else JF s l (k+1)
theorem Qd (s:ByteArray) (l:List ByteArray) (k:Nat) (h:k<l.length):JF s (l.drop k) k=if s.toList=l[k].toList then (k:Int) else JF s (l.drop (k+1)) (k+1):=by
 rw [aW h];rfl
def KQ (s:ByteArray) (l:List ByteArray):Bool:=l.any λx=>s.toList==x.toList
theorem Ww (s:ByteArray) (l:List ByteArray) (k:Nat):decide (0<=JF s l k)=KQ s l:=by
 induction l generalizing k with
 |nil=>rfl
 |cons x l ih=>
  unfold JF KQ
  by_cases h:s.toList=x.toList
  ·rw [aj h];simp [h]
  ·rw [aa h,ih];simp [h,KQ]
theorem Lo.Su {w:World} {B:Nat} {A:Option Addr} {l:List ByteArray} {c:Nat} {s:ByteArray} (h1:OI w B A l) (hl:l.length<=64):
 Calls Lo.prog 120 #[.slice A l.length c,.string s] w λe w'=>e= .returned (.int .i64 (JF s l 0))∧w'=w:=by
 obtain ⟨U,U2,U3,U4,U5,U6⟩:=Lo.facts;go_enter Lo.func120,Tryz.ntmps120;go_wp2
 go_loopw [8] (λi wr=>∃k:Nat,k<=l.length∧i= .int .i64 (k:Int)∧JF s (l.drop k) k=JF s l 0∧wr=w) (λi _=>l.length - (intOf i).toNat)
 case atStart=>exact ⟨0,bn _,rfl,rfl,rfl⟩
 case round=>
  obtain ⟨k,hk,rfl,hx,rfl⟩:=hrel
  by_cases hlt:k<l.length
  ·have hlt':(k:Int)<(l.length:Int):=by omega
   obtain ⟨bb,off,rfl,hbb,hc⟩:=h1 (by omega);have r1:=M5 hc hlt;have hd:=Qd s l k hlt;rw [hx] at hd;clear hc h1 hx;generalize l[k]=x at r1 hd
   by_cases hq:s.toList=x.toList
   ·rw [aj hq] at hd;have d:(s.toList==x.toList)=true:=by simpa using hq
    have HD:=dw hd;clear hd;go_wp2;go_ret;exact ⟨by rw [HD.out];rfl,by simp⟩
   ·rw [aa hq] at hd;have d:(s.toList==x.toList)=false:=by simpa using hq
    have HD:=dw hd;clear hd;go_wp2;go_roundw
    case rel=>exact ⟨k+1,by omega,by go_num,HD.out.symm,by simp⟩
    case measure=>simp [intOf];omega
  ·obtain rfl:k=l.length:=by omega
   have hx':(-1:Int)=JF s l 0:=by rw [<-hx,aF];rfl
   have HX:=dw hx';clear hx hx';go_wp2;go_ret;exact ⟨by rw [<-HX.out];rfl,by simp⟩
theorem Lo.Sv {w:World} {B:Nat} {A:Option Addr} {l:List ByteArray} {c:Nat} {s:ByteArray} (h1:OI w B A l) (hl:l.length<=64):
 Calls Lo.prog 84 #[.slice A l.length c,.string s] w λe w'=>e= .returned (.bool (KQ s l))∧w'=w:=by
 have U:=Lo.underlying;have U2:=Lo.runUnderlying;have C:=Lo.call120;go_enter Lo.func84,Tryz.ntmps84
 go_wp2_with (go_at_call 120;refine (Lo.Su h1 hl).mono ?_;rintro e w1 ⟨rfl,rfl⟩)
 go_ret;exact ⟨by rw [<-Ww s l 0];rfl,by simp⟩
end
end Go.Proofs
