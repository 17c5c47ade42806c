/- Part 11. -/
import Derived.Lib.LazyBuf
import Derived.Test.YtnemnkmojiljmaaF10
set_option maxRecDepth 100000
set_option maxHeartbeats 8000000
set_option linter.all false
section
namespace Go.Proofs
open Go Go.RowKit Go.Maps
variable [Lo.St]
theorem Lo.NQ (a b:Int) (w:World):Calls Lo.prog 44 #[.agg #[.int .i64 a,.int .i64 b]] w λe w'=>e= .returned (.bool (!dQ a b 0 1000000))∧Below w.heap.size w w':=by
 obtain ⟨U,U2,U3,U4,U5,U6⟩:=@Lo.facts inferInstance;have C:=(@Lo.call45 inferInstance);go_enter Lo.func44,Try.ntmps44
 go_wp2_with (go_at_call 45;refine (Lo.jK _ _ _ _ _).mono ?_;rintro e w1 ⟨rfl,hb1⟩)
 go_ret;exact ⟨rfl,((Below.refl _ _).alloc (aj _) _).trans (hb1.mono (by simp))⟩
def BD {α:Type} (f:α->Bool):List α->Nat->Int
 | [],_=> -1
 |x::l,k=>if f x=true then (k:Int) else BD f l (k+1)
theorem NS {α:Type} (f:α->Bool) (ss:List α) (k:Nat):decide (0<=BD f ss k)=ss.any f:=by
 induction ss generalizing k with
 |nil=>rfl
 |cons x l ih=>
  unfold BD
  by_cases h:f x=true
  ·rw [if_pos h];simp [h]
  ·rw [if_neg h,ih];simp [h]
theorem Gq {α:Type} (f:α->Bool) (ss:List α) (k:Nat) (h:k<ss.length):BD f (ss.drop k) k=if f ss[k]=true then (k:Int) else BD f (ss.drop (k+1)) (k+1):=by
 rw [aG h];rfl
def CB (ps:List (Int×Int)) (i j:Nat):Value:=match j with
 |0=>.int .i64 ((ps[i]?).getD (0,0)).1
 |_=>.int .i64 ((ps[i]?).getD (0,0)).2
abbrev Lc (w:World) (B:Nat) (A:Option Addr) (ps:List (Int×Int)):Prop:=Rd w B 2 A ps.length (CB ps)
theorem Em {w:World} {ps:List (Int×Int)} {bb off k:Nat} (hc:∀i j,i<ps.length->j<2->w.cell? ⟨bb,off+(i*2+j),none⟩=some (CB ps i j)) (hlt:k<ps.length):
 w.cell? ⟨bb,off+k*2,none⟩=some (.int .i64 ps[k].1)∧w.cell? ⟨bb,off+k*2+1,none⟩=some (.int .i64 ps[k].2):=by
 have h0:=hc k 0 hlt (by omega);have h1:=hc k 1 hlt (by omega);unfold CB at h0 h1;rw [ax hlt] at h0 h1;exact ⟨h0,h1⟩
def jc (p:Int×Int):Bool:=!dQ p.1 p.2 0 1000000
theorem Lo.Pj {w:World} {B:Nat} {ps:List (Int×Int)} {A:Option Addr} {cap:Nat} (hr:Lc w B A ps) (hlen:ps.length<=64) (hB:B<=w.heap.size):
 Calls Lo.prog 77 #[.slice A ps.length cap,.func (.func 44) #[] #[]] w λe w'=>e= .returned (.int .i64 (BD jc ps 0))∧Below w.heap.size w w':=by
 obtain ⟨U,U2,U3,U4,U5,U6⟩:=@Lo.facts inferInstance;have C:=(@Lo.call44 inferInstance);go_enter Lo.func77,Try.ntmps77;go_wp2
 go_loopw [8] (λi wr=>∃k:Nat,k<=ps.length∧i= .int .i64 (k:Int)∧BD jc (ps.drop k) k=BD jc ps 0∧Below w.heap.size w wr) (λi _=>ps.length - (intOf i).toNat)
 case atStart=>exact ⟨0,aL _,rfl,rfl,Below.refl _ _⟩
 case round=>
  obtain ⟨k,hk,rfl,hx,hb⟩:=hrel
  by_cases hlt:k<ps.length
  ·obtain ⟨bb,off,rfl,hbb,hc⟩:=(hr.keep (λb o h=>bV hb b o (by omega))) (by omega);obtain ⟨k0,k1⟩:=Em hc hlt;rw [Gq jc ps k hlt] at hx;generalize ps[k]=x at hx k0 k1;obtain ⟨lo,hi⟩:=x;simp only at hx k0 k1;have hlt':(k:Int)<(ps.length:Int):=by omega
   have HB:=Lib.hid hb;clear hb hc hr
   by_cases hcr:jc (lo,hi)=true
   ·rw [if_pos hcr] at hx;have HX:=Lib.hid hx;have d1:dQ lo hi 0 1000000=false:=by unfold jc at hcr;simpa using hcr
    clear hx hcr
    go_wp2_with (go_at_call 44;refine (Lo.NQ _ _ _).mono ?_;rintro e w1 ⟨rfl,hb1⟩;rw [d1])
    go_ret;exact ⟨by rw [<-HX.out];rfl,HB.out.trans (hb1.mono HB.out.size)⟩
   ·rw [if_neg hcr] at hx;have HX:=Lib.hid hx;have d1:dQ lo hi 0 1000000=true:=by unfold jc at hcr;simpa using hcr
    clear hx hcr
    go_wp2_with (go_at_call 44;refine (Lo.NQ _ _ _).mono ?_;rintro e w1 ⟨rfl,hb1⟩;rw [d1])
    go_roundw
    case rel=>exact ⟨k+1,by omega,by go_num,HX.out,HB.out.trans (hb1.mono HB.out.size)⟩
    case measure=>simp [intOf];omega
  ·obtain rfl:k=ps.length:=by omega
   have hx':(-1:Int)=BD jc ps 0:=by rw [<-hx,List.drop_length];rfl
   clear hx;have HX:=Lib.hid hx';clear hx';go_wp2;go_ret;exact ⟨by rw [<-HX.out];rfl,hb⟩
theorem Lo.vX {w:World} {B:Nat} {ps:List (Int×Int)} {A:Option Addr} {cap:Nat} (hr:Lc w B A ps) (hlen:ps.length<=64) (hB:B<=w.heap.size):
 Calls Lo.prog 43 #[.slice A ps.length cap,.func (.func 44) #[] #[]] w λe w'=>e= .returned (.bool (ps.any jc))∧Below w.heap.size w w':=by
 obtain ⟨U,U2,U3,U4,U5,U6⟩:=@Lo.facts inferInstance;have C:=(@Lo.call77 inferInstance);go_enter Lo.func43,Try.ntmps43
 go_wp2_with (go_at_call 77;refine (Lo.Pj hr hlen hB).mono ?_;rintro e w1 ⟨rfl,hb1⟩)
 go_ret;exact ⟨by rw [<-NS jc ps 0];rfl,hb1⟩
end Go.Proofs
end
section
namespace Go.Proofs
open Go Go.RowKit Go.Maps
variable [Lo.St]
def cutAt (ps:List (Int×Int×Int)) (i j:Nat):Value:=match j with
 |0=>.int .i64 ((ps[i]?).getD (0,0,0)).1
 |1=>.int .i64 ((ps[i]?).getD (0,0,0)).2.1
 |_=>.int .i64 ((ps[i]?).getD (0,0,0)).2.2
abbrev Ld (w:World) (B:Nat) (A:Option Addr) (ps:List (Int×Int×Int)):Prop:=Rd w B 3 A ps.length (cutAt ps)
theorem vY {w:World} {ps:List (Int×Int×Int)} {bb off k:Nat} (hc:∀i j,i<ps.length->j<3->w.cell? ⟨bb,off+(i*3+j),none⟩=some (cutAt ps i j)) (hlt:k<ps.length):
 w.cell? ⟨bb,off+k*3,none⟩=some (.int .i64 ps[k].1)∧w.cell? ⟨bb,off+k*3+1,none⟩=some (.int .i64 ps[k].2.1)∧w.cell? ⟨bb,off+k*3+2,none⟩=some (.int .i64 ps[k].2.2):=by
 have h0:=hc k 0 hlt (by omega);have h1:=hc k 1 hlt (by omega);have h2:=hc k 2 hlt (by omega);unfold cutAt at h0 h1 h2;rw [ax hlt] at h0 h1 h2;exact ⟨h0,h1,h2⟩
def iN (p:Int×Int×Int):Bool:=!(qg p.1 1 1000000&&dQ p.2.1 p.2.2 0 1000)
theorem Lo.NT (p a b:Int) (w:World):Calls Lo.prog 47 #[.agg #[.int .i64 p,.int .i64 a,.int .i64 b]] w λe w'=>e= .returned (.bool (iN (p,a,b)))∧Below w.heap.size w w':=by
 obtain ⟨U,U2,U3,U4,U5,U6⟩:=@Lo.facts inferInstance;have C:=(@Lo.call45 inferInstance);have C2:=(@Lo.call28 inferInstance);cases hq:qg p 1 1000000 with
 |true=>
  have HQ:=Lib.hid hq;go_enter Lo.func47,Try.ntmps47
  go_wp2_with (first
   |(go_at_call 28;refine (Lo.dx _ _ _ _).mono ?_;rintro e w1 ⟨rfl,rfl⟩;rw [HQ.out])
   |(go_at_call 45;refine (Lo.jK _ _ _ _ _).mono ?_;rintro e w1 ⟨rfl,hb1⟩))
  go_ret;exact ⟨by unfold iN;simp [HQ.out],((Below.refl _ _).alloc (aj _) _).trans (hb1.mono (by simp))⟩
 |false=>
  have HQ:=Lib.hid hq;go_enter Lo.func47,Try.ntmps47
  go_wp2_with (go_at_call 28;refine (Lo.dx _ _ _ _).mono ?_;rintro e w1 ⟨rfl,rfl⟩;rw [HQ.out])
  go_ret;exact ⟨by unfold iN;simp [HQ.out],(Below.refl _ _).alloc (aj _) _⟩
theorem Lo.Pk {w:World} {B:Nat} {ps:List (Int×Int×Int)} {A:Option Addr} {cap:Nat} (hr:Ld w B A ps) (hlen:ps.length<=64) (hB:B<=w.heap.size):
 Calls Lo.prog 78 #[.slice A ps.length cap,.func (.func 47) #[] #[]] w λe w'=>e= .returned (.int .i64 (BD iN ps 0))∧Below w.heap.size w w':=by
 obtain ⟨U,U2,U3,U4,U5,U6⟩:=@Lo.facts inferInstance;have C:=(@Lo.call47 inferInstance);go_enter Lo.func78,Try.ntmps78;go_wp2
 go_loopw [8] (λi wr=>∃k:Nat,k<=ps.length∧i= .int .i64 (k:Int)∧BD iN (ps.drop k) k=BD iN ps 0∧Below w.heap.size w wr) (λi _=>ps.length - (intOf i).toNat)
 case atStart=>exact ⟨0,aL _,rfl,rfl,Below.refl _ _⟩
 case round=>
  obtain ⟨k,hk,rfl,hx,hb⟩:=hrel
  by_cases hlt:k<ps.length
  ·obtain ⟨bb,off,rfl,hbb,hc⟩:=(hr.keep (λb o h=>bV hb b o (by omega))) (by omega);obtain ⟨k0,k1,k2⟩:=vY hc hlt;rw [Gq iN ps k hlt] at hx;generalize ps[k]=x at hx k0 k1 k2;obtain ⟨pc,lo,hi⟩:=x;simp only at hx k0 k1 k2;have hlt':(k:Int)<(ps.length:Int):=by omega
   have HB:=Lib.hid hb;clear hb hc hr
   by_cases hcr:iN (pc,lo,hi)=true
   ·rw [if_pos hcr] at hx;have HX:=Lib.hid hx;have d1:=hcr;clear hx hcr
    go_wp2_with (go_at_call 47;refine (Lo.NT _ _ _ _).mono ?_;rintro e w1 ⟨rfl,hb1⟩;rw [d1])
    go_ret;exact ⟨by rw [<-HX.out];rfl,HB.out.trans (hb1.mono HB.out.size)⟩
   ·rw [if_neg hcr] at hx;have HX:=Lib.hid hx;have d1:iN (pc,lo,hi)=false:=by simpa using hcr
    clear hx hcr
    go_wp2_with (go_at_call 47;refine (Lo.NT _ _ _ _).mono ?_;rintro e w1 ⟨rfl,hb1⟩;rw [d1])
    go_roundw
    case rel=>exact ⟨k+1,by omega,by go_num,HX.out,HB.out.trans (hb1.mono HB.out.size)⟩
    case measure=>simp [intOf];omega
  ·obtain rfl:k=ps.length:=by omega
   have hx':(-1:Int)=BD iN ps 0:=by rw [<-hx,List.drop_length];rfl
   clear hx;have HX:=Lib.hid hx';clear hx';go_wp2;go_ret;exact ⟨by rw [<-HX.out];rfl,hb⟩
theorem Lo.zn {w:World} {B:Nat} {ps:List (Int×Int×Int)} {A:Option Addr} {cap:Nat} (hr:Ld w B A ps) (hlen:ps.length<=64) (hB:B<=w.heap.size):
 Calls Lo.prog 46 #[.slice A ps.length cap,.func (.func 47) #[] #[]] w λe w'=>e= .returned (.bool (ps.any iN))∧Below w.heap.size w w':=by
 obtain ⟨U,U2,U3,U4,U5,U6⟩:=@Lo.facts inferInstance;have C:=(@Lo.call78 inferInstance);go_enter Lo.func46,Try.ntmps46
 go_wp2_with (go_at_call 78;refine (Lo.Pk hr hlen hB).mono ?_;rintro e w1 ⟨rfl,hb1⟩)
 go_ret;exact ⟨by rw [<-NS iN ps 0];rfl,hb1⟩
end Go.Proofs
end
section
namespace Go.Proofs
open Go Go.RowKit Go.Maps
variable [Lo.St]
def cO (lots:List (Int×Int)) (cs:List (Int×Int×Int)) (limit:Int):Int:=
 if 6<lots.length then 2 else if qg cs.length 1 4=false then 2 else if lots.any jc=true then 1 else if cs.any iN=true then 1 else if qg limit 0 1000000=false then 1 else 0
theorem Lo.xH {w:World} {B:Nat} {lots:List (Int×Int)} {cs:List (Int×Int×Int)} {A1 A2:Option Addr} {c1 c2:Nat} (h1:Lc w B A1 lots) (h2:Ld w B A2 cs) (hl1:lots.length<=64) (hl2:cs.length<=64) (hB:B<=w.heap.size) (limit:Int):
 Calls Lo.prog 18 #[.slice A1 lots.length c1,.slice A2 cs.length c2,.int .i64 limit] w λe w'=>e= .returned (.int .i64 (cO lots cs limit))∧Below w.heap.size w w':=by
 obtain ⟨U,U2,U3,U4,U5,U6⟩:=@Lo.facts inferInstance;have C:=(@Lo.call28 inferInstance);have C2:=(@Lo.call43 inferInstance);have C3:=(@Lo.call46 inferInstance)
 by_cases q1:6<lots.length
 ·have d1:(6:Int)<(lots.length:Int):=by omega
  have H:=Lib.hid q1;clear q1;go_enter Lo.func18,Try.ntmps18;go_wp2;go_ret;exact ⟨by unfold cO;rw [if_pos H.out];rfl,Below.refl _ _⟩
 have d1:¬(6:Int)<(lots.length:Int):=by omega
 have H1:=Lib.hid q1;clear q1;cases q2:qg cs.length 1 4 with
 |false=>
  have H:=Lib.hid q2;clear q2;go_enter Lo.func18,Try.ntmps18
  go_wp2_with (go_at_call 28;refine (Lo.dx _ _ _ _).mono ?_;rintro e w1 ⟨rfl,rfl⟩;rw [H.out])
  go_ret;exact ⟨by unfold cO;rw [if_neg H1.out,if_pos H.out];rfl,Below.refl _ _⟩
 |true=>
  have H2:=Lib.hid q2;clear q2;cases q3:lots.any jc with
  |true=>
   have H:=Lib.hid q3;clear q3;go_enter Lo.func18,Try.ntmps18
   go_wp2_with (first
    |(go_at_call 28;refine (Lo.dx _ _ _ _).mono ?_;rintro e w1 ⟨rfl,rfl⟩;rw [H2.out])
    |(go_at_call 43;refine (Lo.vX h1 hl1 hB).mono ?_;rintro e w1 ⟨rfl,hb1⟩;rw [H.out]))
   go_ret;exact ⟨by unfold cO;rw [if_neg H1.out,if_neg (by rw [H2.out];simp),if_pos H.out];rfl,hb1⟩
  |false=>
   have H3:=Lib.hid q3;clear q3;cases q4:cs.any iN with
   |true=>
    have H:=Lib.hid q4;clear q4;go_enter Lo.func18,Try.ntmps18
    go_wp2_with (first
     |(go_at_call 28;refine (Lo.dx _ _ _ _).mono ?_;rintro e w1 ⟨rfl,rfl⟩;rw [H2.out])
     |(go_at_call 43;refine (Lo.vX h1 hl1 hB).mono ?_;rintro e w1 ⟨rfl,hb1⟩;rw [H3.out];have HB:=Lib.hid hb1;clear hb1)
     |(go_at_call 46;refine (Lo.zn (h2.keep λb o h=>bV HB.out b o (by omega)) hl2 (aC hB HB.out.size)).mono ?_;rintro e w2 ⟨rfl,hb2⟩;rw [H.out]))
    go_ret;exact ⟨by unfold cO;rw [if_neg H1.out,if_neg (by rw [H2.out];simp),if_neg (by rw [H3.out];simp),if_pos H.out];rfl,HB.out.trans (hb2.mono HB.out.size)⟩
   |false=>
    have H4:=Lib.hid q4;clear q4;cases q5:qg limit 0 1000000 with
    |false=>
     have H:=Lib.hid q5;clear q5;go_enter Lo.func18,Try.ntmps18
     go_wp2_with (first
      |(go_at_call 28;refine (Lo.dx _ _ _ _).mono ?_;rintro e w1 ⟨rfl,rfl⟩;first |rw [H2.out]|rw [H.out])
      |(go_at_call 43;refine (Lo.vX h1 hl1 hB).mono ?_;rintro e w1 ⟨rfl,hb1⟩;rw [H3.out];have HB:=Lib.hid hb1;clear hb1)
      |(go_at_call 46;refine (Lo.zn (h2.keep λb o h=>bV HB.out b o (by omega)) hl2 (aC hB HB.out.size)).mono ?_;rintro e w2 ⟨rfl,hb2⟩;rw [H4.out];have HB2:=Lib.hid hb2;clear hb2))
     go_ret;exact ⟨by unfold cO;rw [if_neg H1.out,if_neg (by rw [H2.out];simp),if_neg (by rw [H3.out];simp),if_neg (by rw [H4.out];simp),if_pos H.out];rfl,HB.out.trans (HB2.out.mono HB.out.size)⟩
    |true=>
     have H:=Lib.hid q5;clear q5;go_enter Lo.func18,Try.ntmps18
     go_wp2_with (first
      |(go_at_call 28;refine (Lo.dx _ _ _ _).mono ?_;rintro e w1 ⟨rfl,rfl⟩;first |rw [H2.out]|rw [H.out])
      |(go_at_call 43;refine (Lo.vX h1 hl1 hB).mono ?_;rintro e w1 ⟨rfl,hb1⟩;rw [H3.out];have HB:=Lib.hid hb1;clear hb1)
      |(go_at_call 46;refine (Lo.zn (h2.keep λb o h=>bV HB.out b o (by omega)) hl2 (aC hB HB.out.size)).mono ?_;rintro e w2 ⟨rfl,hb2⟩;rw [H4.out];have HB2:=Lib.hid hb2;clear hb2))
     go_ret;exact ⟨by unfold cO;rw [if_neg H1.out,if_neg (by rw [H2.out];simp),if_neg (by rw [H3.out];simp),if_neg (by rw [H4.out];simp),if_neg (by rw [H.out];simp)];rfl,HB.out.trans (HB2.out.mono HB.out.size)⟩
end Go.Proofs
end
section
namespace Go.Proofs
open Go Go.RowKit Go.Maps
variable [Lo.St]
theorem Lo.Pm {w:World} {B:Nat} {bb off:Nat} {l:List Int} {c:Nat} (h:zT w B (some ⟨bb,off,none⟩) l) (hl:0<l.length) (hl2:l.length<=64) (hB:B<=w.heap.size):
 Calls Lo.prog 22 #[.slice (some ⟨bb,off,none⟩) l.length c] w λe w'=>∃v,e= .returned v∧w'.ownsRow w.heap.size 3 1 v l.length (l.map λx=>.int .i64 x)∧Par.dh w' v∧Below w.heap.size w w':=by
 obtain ⟨U,U2,U3,U4,U5,U6⟩:=@Lo.facts inferInstance;obtain ⟨i0,hi,hz0,hz1,hz2⟩:=info_parts Lo.info3;have hE:∀W:World,Sem.run Lo.prog (binOp .eql 25 (.slice (some ⟨bb,off,none⟩) l.length c) (.slice none 0 0)) W= .ok (.bool false) W:= λW=>Go.run_eql_slice_nil W 25 3 _ _ _ Lo.DU
 obtain ⟨b1,o1,e1,hb1,hc⟩:=h hl;cases e1
 have hown:(w.alloc (.cells #[] 3)).ownsRow w.heap.size 3 1 (.slice (some ⟨w.heap.size,0,none⟩) 0 0) 0 []:=by
  refine ⟨rfl,.inr ⟨w.heap.size,0,#[],rfl,aj _,?_,aj _,?_,?_,?_⟩⟩
  ·show (w.heap.push (.cells #[] 3))[w.heap.size]?=_
   simp
  all_goals simp
 have HO:=Lib.hid hown;have HC:=Lib.hid hc;clear hown hc;go_enter Lo.func22,Try.ntmps22
 go_wp2_with (first
  |(at_builtin;refine Par.eP rfl _ _ 25 rfl w.heap.size 3 i0 (.int .i64 0) 1 8 Lo.DU hi hz0 hz1 hz2 rfl (by decide) _ _ _ rfl HO.out ⟨bb,off,none⟩ l.length c (l.map λx=>.int .i64 x) rfl ?c0 ?c1 ?c2 ?c3 ?c4 ?c5 ?c8 ?c6 ?c7 ?_))
 case c1=>
  intro j x hx;have hj':=(aJ.1 hx).1;have :=Vm HC.out hj';rw [(aJ.1 hx).2] at this;exact (World.cell?_alloc_past _ _ _ (by show bb<w.heap.size;omega)).trans this
 case c2=>intro x _;rfl
 case c3=>unfold maxLen;omega
 case c4=>omega
 case c8=>
  intro g hg;obtain rfl:w.heap.size=g:=by simpa [Value.ownBlock] using hg
  exact ⟨#[],3,by show (w.heap.push (.cells #[] 3))[w.heap.size]?=_;simp,by simp⟩
 case c6=>intro x _;rfl
 case c7=>rfl
 intro v' w1 h1 h2 h3 h4;have hb:=((Below.refl w.heap.size w).alloc (aj _) (.cells #[] 3)).grown h2 (by show w.heap.size<=(w.heap.push _).size;simp) (λj hj=>by simp [Value.ownBlock] at hj;omega);have HR:=Lib.hid (au h1 (au h4 hb));clear h1 h2 h3 h4 hb;go_wp2;go_ret;exact ⟨_,rfl,HR.out.1,HR.out.2.1,HR.out.2.2⟩
end Go.Proofs
end
