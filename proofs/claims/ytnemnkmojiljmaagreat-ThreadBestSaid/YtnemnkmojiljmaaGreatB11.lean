/- Part 11. -/
import Derived.Lib.LazyBuf
import Derived.Test.YtnemnkmojiljmaaGreatB10
set_option maxRecDepth 100000
set_option maxHeartbeats 0
set_option linter.all false
namespace Go.Proofs
open Go Go.RowKit Go.Maps
section
variable [Lo.St]
theorem Lo.OW (a b:Int) (w:World):Calls Lo.prog 113 #[.agg #[.int .i64 a,.int .i64 b]] w λe w'=>e= .returned (.bool (!fO a b 0 1000000))∧Below w.heap.size w w':=by
 obtain ⟨U,U2,U3,U4,U5,U6⟩:=Lo.facts;have C:=Lo.call50;go_enter Lo.func113,Tryz.ntmps113
 go_wp2_with (go_at_call 50;refine (Lo.lG _ _ _ _ _).mono ?_;rintro e w1 ⟨rfl,hb1⟩)
 go_ret;exact ⟨rfl,((di _ _).alloc (aJ _) _).trans (hb1.mono (by simp))⟩
def Da {α:Type} (f:α->Bool):List α->Nat->Int
 | [],_=> -1
 |x::l,k=>if f x=true then (k:Int) else Da f l (k+1)
theorem OX {α:Type} (f:α->Bool) (ss:List α) (k:Nat):decide (0<=Da f ss k)=ss.any f:=by
 induction ss generalizing k with
 |nil=>rfl
 |cons x l ih=>
  unfold Da
  by_cases h:f x=true
  ·rw [aj h];simp [h]
  ·rw [aa h,ih];simp [h]
theorem IG {α:Type} (f:α->Bool) (ss:List α) (k:Nat) (h:k<ss.length):Da f (ss.drop k) k=if f ss[k]=true then (k:Int) else Da f (ss.drop (k+1)) (k+1):=by
 rw [aW h];rfl
def II (ps:List (Int×Int)) (i j:Nat):Value:=match j with
 |0=>.int .i64 ((ps[i]?).getD (0,0)).1
 |_=>.int .i64 ((ps[i]?).getD (0,0)).2
abbrev RS (w:World) (B:Nat) (A:Option Addr) (ps:List (Int×Int)):Prop:=Rd w B 2 A ps.length (II ps)
theorem FH {w:World} {ps:List (Int×Int)} {bb off k:Nat} (hc:∀i j,i<ps.length->j<2->w.cell? ⟨bb,off+(i*2+j),none⟩=some (II ps i j)) (hlt:k<ps.length):
 w.cell? ⟨bb,off+k*2,none⟩=some (.int .i64 ps[k].1)∧w.cell? ⟨bb,off+k*2+1,none⟩=some (.int .i64 ps[k].2):=by
 have h0:=hc k 0 hlt (by omega);have h1:=hc k 1 hlt (by omega);unfold II at h0 h1;rw [aO hlt] at h0 h1;exact ⟨h0,h1⟩
def kD (p:Int×Int):Bool:=!fO p.1 p.2 0 1000000
theorem Lo.Qm {w:World} {B:Nat} {ps:List (Int×Int)} {A:Option Addr} {cap:Nat} (hr:RS w B A ps) (hlen:ps.length<=64) (hB:B<=w.heap.size):
 Calls Lo.prog 132 #[.slice A ps.length cap,.func (.func 113) #[] #[]] w λe w'=>e= .returned (.int .i64 (Da kD ps 0))∧Below w.heap.size w w':=by
 obtain ⟨U,U2,U3,U4,U5,U6⟩:=Lo.facts;have C:=Lo.call113;go_enter Lo.func132,Tryz.ntmps132;go_wp2
 go_loopw [8] (λi wr=>∃k:Nat,k<=ps.length∧i= .int .i64 (k:Int)∧Da kD (ps.drop k) k=Da kD ps 0∧Below w.heap.size w wr) (λi _=>ps.length - (intOf i).toNat)
 case atStart=>exact ⟨0,bn _,rfl,rfl,di _ _⟩
 case round=>
  obtain ⟨k,hk,rfl,hx,hb⟩:=hrel
  by_cases hlt:k<ps.length
  ·obtain ⟨bb,off,rfl,hbb,hc⟩:=(hr.keep (λb o h=>dU hb b o (by omega))) (by omega);obtain ⟨k0,k1⟩:=FH hc hlt;rw [IG kD ps k hlt] at hx;generalize ps[k]=x at hx k0 k1;obtain ⟨lo,hi⟩:=x;simp only at hx k0 k1;have hlt':(k:Int)<(ps.length:Int):=by omega
   have HB:=dw hb;clear hb hc hr
   by_cases hcr:kD (lo,hi)=true
   ·rw [aj hcr] at hx;have HX:=dw hx;have d1:fO lo hi 0 1000000=false:=by unfold kD at hcr;simpa using hcr
    clear hx hcr
    go_wp2_with (go_at_call 113;refine (Lo.OW _ _ _).mono ?_;rintro e w1 ⟨rfl,hb1⟩;rw [d1])
    go_ret;exact ⟨by rw [<-HX.out];rfl,HB.out.trans (hb1.mono HB.out.size)⟩
   ·rw [aa hcr] at hx;have HX:=dw hx;have d1:fO lo hi 0 1000000=true:=by unfold kD at hcr;simpa using hcr
    clear hx hcr
    go_wp2_with (go_at_call 113;refine (Lo.OW _ _ _).mono ?_;rintro e w1 ⟨rfl,hb1⟩;rw [d1])
    go_roundw
    case rel=>exact ⟨k+1,by omega,by go_num,HX.out,HB.out.trans (hb1.mono HB.out.size)⟩
    case measure=>simp [intOf];omega
  ·obtain rfl:k=ps.length:=by omega
   have hx':(-1:Int)=Da kD ps 0:=by rw [<-hx,aF];rfl
   clear hx;have HX:=dw hx';clear hx';go_wp2;go_ret;exact ⟨by rw [<-HX.out];rfl,hb⟩
theorem Lo.xI {w:World} {B:Nat} {ps:List (Int×Int)} {A:Option Addr} {cap:Nat} (hr:RS w B A ps) (hlen:ps.length<=64) (hB:B<=w.heap.size):
 Calls Lo.prog 112 #[.slice A ps.length cap,.func (.func 113) #[] #[]] w λe w'=>e= .returned (.bool (ps.any kD))∧Below w.heap.size w w':=by
 obtain ⟨U,U2,U3,U4,U5,U6⟩:=Lo.facts;have C:=Lo.call132;go_enter Lo.func112,Tryz.ntmps112
 go_wp2_with (go_at_call 132;refine (Lo.Qm hr hlen hB).mono ?_;rintro e w1 ⟨rfl,hb1⟩)
 go_ret;exact ⟨by rw [<-OX kD ps 0];rfl,hb1⟩
end
section
variable [Lo.St]
def cutAt (ps:List (Int×Int×Int)) (i j:Nat):Value:=match j with
 |0=>.int .i64 ((ps[i]?).getD (0,0,0)).1
 |1=>.int .i64 ((ps[i]?).getD (0,0,0)).2.1
 |_=>.int .i64 ((ps[i]?).getD (0,0,0)).2.2
abbrev RU (w:World) (B:Nat) (A:Option Addr) (ps:List (Int×Int×Int)):Prop:=Rd w B 3 A ps.length (cutAt ps)
theorem xJ {w:World} {ps:List (Int×Int×Int)} {bb off k:Nat} (hc:∀i j,i<ps.length->j<3->w.cell? ⟨bb,off+(i*3+j),none⟩=some (cutAt ps i j)) (hlt:k<ps.length):
 w.cell? ⟨bb,off+k*3,none⟩=some (.int .i64 ps[k].1)∧w.cell? ⟨bb,off+k*3+1,none⟩=some (.int .i64 ps[k].2.1)∧w.cell? ⟨bb,off+k*3+2,none⟩=some (.int .i64 ps[k].2.2):=by
 have h0:=hc k 0 hlt (by omega);have h1:=hc k 1 hlt (by omega);have h2:=hc k 2 hlt (by omega);unfold cutAt at h0 h1 h2;rw [aO hlt] at h0 h1 h2;exact ⟨h0,h1,h2⟩
def jM (p:Int×Int×Int):Bool:=!(rO p.1 1 1000000&&fO p.2.1 p.2.2 0 1000)
theorem Lo.OY (p a b:Int) (w:World):Calls Lo.prog 115 #[.agg #[.int .i64 p,.int .i64 a,.int .i64 b]] w λe w'=>e= .returned (.bool (jM (p,a,b)))∧Below w.heap.size w w':=by
 obtain ⟨U,U2,U3,U4,U5,U6⟩:=Lo.facts;have C:=Lo.call50;have C2:=Lo.call49;cases hq:rO p 1 1000000 with
 |true=>
  have HQ:=dw hq;go_enter Lo.func115,Tryz.ntmps115
  go_wp2_with (first
   |(go_at_call 49;refine (Lo.eZ _ _ _ _).mono ?_;rintro e w1 ⟨rfl,rfl⟩;rw [HQ.out])
   |(go_at_call 50;refine (Lo.lG _ _ _ _ _).mono ?_;rintro e w1 ⟨rfl,hb1⟩))
  go_ret;exact ⟨by unfold jM;simp [HQ.out],((di _ _).alloc (aJ _) _).trans (hb1.mono (by simp))⟩
 |false=>
  have HQ:=dw hq;go_enter Lo.func115,Tryz.ntmps115
  go_wp2_with (go_at_call 49;refine (Lo.eZ _ _ _ _).mono ?_;rintro e w1 ⟨rfl,rfl⟩;rw [HQ.out])
  go_ret;exact ⟨by unfold jM;simp [HQ.out],(di _ _).alloc (aJ _) _⟩
theorem Lo.Qn {w:World} {B:Nat} {ps:List (Int×Int×Int)} {A:Option Addr} {cap:Nat} (hr:RU w B A ps) (hlen:ps.length<=64) (hB:B<=w.heap.size):
 Calls Lo.prog 133 #[.slice A ps.length cap,.func (.func 115) #[] #[]] w λe w'=>e= .returned (.int .i64 (Da jM ps 0))∧Below w.heap.size w w':=by
 obtain ⟨U,U2,U3,U4,U5,U6⟩:=Lo.facts;have C:=Lo.call115;go_enter Lo.func133,Tryz.ntmps133;go_wp2
 go_loopw [8] (λi wr=>∃k:Nat,k<=ps.length∧i= .int .i64 (k:Int)∧Da jM (ps.drop k) k=Da jM ps 0∧Below w.heap.size w wr) (λi _=>ps.length - (intOf i).toNat)
 case atStart=>exact ⟨0,bn _,rfl,rfl,di _ _⟩
 case round=>
  obtain ⟨k,hk,rfl,hx,hb⟩:=hrel
  by_cases hlt:k<ps.length
  ·obtain ⟨bb,off,rfl,hbb,hc⟩:=(hr.keep (λb o h=>dU hb b o (by omega))) (by omega);obtain ⟨k0,k1,k2⟩:=xJ hc hlt;rw [IG jM ps k hlt] at hx;generalize ps[k]=x at hx k0 k1 k2;obtain ⟨pc,lo,hi⟩:=x;simp only at hx k0 k1 k2;have hlt':(k:Int)<(ps.length:Int):=by omega
   have HB:=dw hb;clear hb hc hr
   by_cases hcr:jM (pc,lo,hi)=true
   ·rw [aj hcr] at hx;have HX:=dw hx;have d1:=hcr;clear hx hcr
    go_wp2_with (go_at_call 115;refine (Lo.OY _ _ _ _).mono ?_;rintro e w1 ⟨rfl,hb1⟩;rw [d1])
    go_ret;exact ⟨by rw [<-HX.out];rfl,HB.out.trans (hb1.mono HB.out.size)⟩
   ·rw [aa hcr] at hx;have HX:=dw hx;have d1:jM (pc,lo,hi)=false:=by simpa using hcr
    clear hx hcr
    go_wp2_with (go_at_call 115;refine (Lo.OY _ _ _ _).mono ?_;rintro e w1 ⟨rfl,hb1⟩;rw [d1])
    go_roundw
    case rel=>exact ⟨k+1,by omega,by go_num,HX.out,HB.out.trans (hb1.mono HB.out.size)⟩
    case measure=>simp [intOf];omega
  ·obtain rfl:k=ps.length:=by omega
   have hx':(-1:Int)=Da jM ps 0:=by rw [<-hx,aF];rfl
   clear hx;have HX:=dw hx';clear hx';go_wp2;go_ret;exact ⟨by rw [<-HX.out];rfl,hb⟩
theorem Lo.AU {w:World} {B:Nat} {ps:List (Int×Int×Int)} {A:Option Addr} {cap:Nat} (hr:RU w B A ps) (hlen:ps.length<=64) (hB:B<=w.heap.size):
 Calls Lo.prog 114 #[.slice A ps.length cap,.func (.func 115) #[] #[]] w λe w'=>e= .returned (.bool (ps.any jM))∧Below w.heap.size w w':=by
 obtain ⟨U,U2,U3,U4,U5,U6⟩:=Lo.facts;have C:=Lo.call133;go_enter Lo.func114,Tryz.ntmps114
 go_wp2_with (go_at_call 133;refine (Lo.Qn hr hlen hB).mono ?_;rintro e w1 ⟨rfl,hb1⟩)
 go_ret;exact ⟨by rw [<-OX jM ps 0];rfl,hb1⟩
end
section
variable [Lo.St]
def eU (dK:List (Int×Int)) (cs:List (Int×Int×Int)) (limit:Int):Int:=
 if 6<dK.length then 2 else if rO cs.length 1 4=false then 2 else if dK.any kD=true then 1 else if cs.any jM=true then 1 else if rO limit 0 1000000=false then 1 else 0
theorem Lo.yZ {w:World} {B:Nat} {dK:List (Int×Int)} {cs:List (Int×Int×Int)} {A1 A2:Option Addr} {c1 c2:Nat} (h1:RS w B A1 dK) (h2:RU w B A2 cs) (hl1:dK.length<=64) (hl2:cs.length<=64) (hB:B<=w.heap.size) (limit:Int):
 Calls Lo.prog 71 #[.slice A1 dK.length c1,.slice A2 cs.length c2,.int .i64 limit] w λe w'=>e= .returned (.int .i64 (eU dK cs limit))∧Below w.heap.size w w':=by
 obtain ⟨U,U2,U3,U4,U5,U6⟩:=Lo.facts;have C:=Lo.call49;have C2:=Lo.call112;have C3:=Lo.call114
 by_cases q1:6<dK.length
 ·have d1:(6:Int)<(dK.length:Int):=by omega
  have H:=dw q1;clear q1;go_enter Lo.func71,Tryz.ntmps71;go_wp2;go_ret;exact ⟨by unfold eU;rw [aj H.out];rfl,di _ _⟩
 have d1:¬(6:Int)<(dK.length:Int):=by omega
 have H1:=dw q1;clear q1;cases q2:rO cs.length 1 4 with
 |false=>
  have H:=dw q2;clear q2;go_enter Lo.func71,Tryz.ntmps71
  go_wp2_with (go_at_call 49;refine (Lo.eZ _ _ _ _).mono ?_;rintro e w1 ⟨rfl,rfl⟩;rw [H.out])
  go_ret;exact ⟨by unfold eU;rw [aa H1.out,aj H.out];rfl,di _ _⟩
 |true=>
  have H2:=dw q2;clear q2;cases q3:dK.any kD with
  |true=>
   have H:=dw q3;clear q3;go_enter Lo.func71,Tryz.ntmps71
   go_wp2_with (first
    |(go_at_call 49;refine (Lo.eZ _ _ _ _).mono ?_;rintro e w1 ⟨rfl,rfl⟩;rw [H2.out])
    |(go_at_call 112;refine (Lo.xI h1 hl1 hB).mono ?_;rintro e w1 ⟨rfl,hb1⟩;rw [H.out]))
   go_ret;exact ⟨by unfold eU;rw [aa H1.out,aa (by rw [H2.out];simp),aj H.out];rfl,hb1⟩
  |false=>
   have H3:=dw q3;clear q3;cases q4:cs.any jM with
   |true=>
    have H:=dw q4;clear q4;go_enter Lo.func71,Tryz.ntmps71
    go_wp2_with (first
     |(go_at_call 49;refine (Lo.eZ _ _ _ _).mono ?_;rintro e w1 ⟨rfl,rfl⟩;rw [H2.out])
     |(go_at_call 112;refine (Lo.xI h1 hl1 hB).mono ?_;rintro e w1 ⟨rfl,hb1⟩;rw [H3.out];have HB:=dw hb1;clear hb1)
     |(go_at_call 114;refine (Lo.AU (h2.keep λb o h=>dU HB.out b o (by omega)) hl2 (aT hB HB.out.size)).mono ?_;rintro e w2 ⟨rfl,hb2⟩;rw [H.out]))
    go_ret;exact ⟨by unfold eU;rw [aa H1.out,aa (by rw [H2.out];simp),aa (by rw [H3.out];simp),aj H.out];rfl,HB.out.trans (hb2.mono HB.out.size)⟩
   |false=>
    have H4:=dw q4;clear q4;cases q5:rO limit 0 1000000 with
    |false=>
     have H:=dw q5;clear q5;go_enter Lo.func71,Tryz.ntmps71
     go_wp2_with (first
      |(go_at_call 49;refine (Lo.eZ _ _ _ _).mono ?_;rintro e w1 ⟨rfl,rfl⟩;first |rw [H2.out]|rw [H.out])
      |(go_at_call 112;refine (Lo.xI h1 hl1 hB).mono ?_;rintro e w1 ⟨rfl,hb1⟩;rw [H3.out];have HB:=dw hb1;clear hb1)
      |(go_at_call 114;refine (Lo.AU (h2.keep λb o h=>dU HB.out b o (by omega)) hl2 (aT hB HB.out.size)).mono ?_;rintro e w2 ⟨rfl,hb2⟩;rw [H4.out];have HB2:=dw hb2;clear hb2))
     go_ret;exact ⟨by unfold eU;rw [aa H1.out,aa (by rw [H2.out];simp),aa (by rw [H3.out];simp),aa (by rw [H4.out];simp),aj H.out];rfl,HB.out.trans (HB2.out.mono HB.out.size)⟩
    |true=>
     have H:=dw q5;clear q5;go_enter Lo.func71,Tryz.ntmps71
     go_wp2_with (first
      |(go_at_call 49;refine (Lo.eZ _ _ _ _).mono ?_;rintro e w1 ⟨rfl,rfl⟩;first |rw [H2.out]|rw [H.out])
      |(go_at_call 112;refine (Lo.xI h1 hl1 hB).mono ?_;rintro e w1 ⟨rfl,hb1⟩;rw [H3.out];have HB:=dw hb1;clear hb1)
      |(go_at_call 114;refine (Lo.AU (h2.keep λb o h=>dU HB.out b o (by omega)) hl2 (aT hB HB.out.size)).mono ?_;rintro e w2 ⟨rfl,hb2⟩;rw [H4.out];have HB2:=dw hb2;clear hb2))
     go_ret;exact ⟨by unfold eU;rw [aa H1.out,aa (by rw [H2.out];simp),aa (by rw [H3.out];simp),aa (by rw [H4.out];simp),aa (by rw [H.out];simp)];rfl,HB.out.trans (HB2.out.mono HB.out.size)⟩
end
section
variable [Lo.St]
theorem Lo.Qo {w:World} {B:Nat} {bb off:Nat} {l:List Int} {c:Nat} (h:BJ w B (some ⟨bb,off,none⟩) l) (hl:0<l.length) (hl2:l.length<=64) (hB:B<=w.heap.size):
 Calls Lo.prog 75 #[.slice (some ⟨bb,off,none⟩) l.length c] w λe w'=>∃v,e= .returned v∧w'.ownsRow w.heap.size 3 1 v l.length (l.map λx=>.int .i64 x)∧Par.eP w' v∧Below w.heap.size w w':=by
 obtain ⟨U,U2,U3,U4,U5,U6⟩:=Lo.facts;obtain ⟨i0,hi,hz0,hz1,hz2⟩:=info_parts Lo.info3;have hE:∀W:World,Sem.run Lo.prog (binOp .eql 44 (.slice (some ⟨bb,off,none⟩) l.length c) (.slice none 0 0)) W= .ok (.bool false) W:= λW=>Go.run_eql_slice_nil W 44 3 _ _ _ Lo.Iw
 obtain ⟨b1,o1,e1,hb1,hc⟩:=h hl;cases e1
 have hown:(w.alloc (.cells #[] 3)).ownsRow w.heap.size 3 1 (.slice (some ⟨w.heap.size,0,none⟩) 0 0) 0 []:=by
  refine ⟨rfl,.inr ⟨w.heap.size,0,#[],rfl,aJ _,?_,aJ _,?_,?_,?_⟩⟩
  ·show (w.heap.push (.cells #[] 3))[w.heap.size]?=_
   simp
  all_goals simp
 have HO:=dw hown;have HC:=dw hc;clear hown hc;go_enter Lo.func75,Tryz.ntmps75
 go_wp2_with (first
  |(at_builtin;refine Par.gG rfl _ _ 44 rfl w.heap.size 3 i0 (.int .i64 0) 1 8 Lo.Iw hi hz0 hz1 hz2 rfl (by decide) _ _ _ rfl HO.out ⟨bb,off,none⟩ l.length c (l.map λx=>.int .i64 x) rfl ?c0 ?c1 ?c2 ?c3 ?c4 ?c5 ?c8 ?c6 ?c7 ?_))
 case c1=>
  intro j x hx;have hj':=(aZ.1 hx).1;have :=Wd HC.out hj';rw [(aZ.1 hx).2] at this;exact (dh _ _ _ (by show bb<w.heap.size;omega)).trans this
 case c2=>intro x _;rfl
 case c3=>unfold maxLen;omega
 case c4=>omega
 case c8=>
  intro g hg;obtain rfl:w.heap.size=g:=by simpa [Value.ownBlock] using hg
  exact ⟨#[],3,by show (w.heap.push (.cells #[] 3))[w.heap.size]?=_;simp,by simp⟩
 case c6=>intro x _;rfl
 case c7=>rfl
 intro v' w1 h1 h2 h3 h4;have hb:=((di w.heap.size w).alloc (aJ _) (.cells #[] 3)).grown h2 (by show w.heap.size<=(w.heap.push _).size;simp) (λj hj=>by simp [Value.ownBlock] at hj;omega);have HR:=dw (aM h1 (aM h4 hb));clear h1 h2 h3 h4 hb;go_wp2;go_ret;exact ⟨_,rfl,HR.out.1,HR.out.2.1,HR.out.2.2⟩
end
end Go.Proofs
