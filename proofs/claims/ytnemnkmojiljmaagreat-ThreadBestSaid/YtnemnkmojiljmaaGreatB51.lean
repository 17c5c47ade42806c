/- Part 51. -/
import Derived.Test.YtnemnkmojiljmaaGreatB10
import Derived.Test.YtnemnkmojiljmaaGreatB45
import Derived.Test.YtnemnkmojiljmaaGreatB49
import Derived.Test.YtnemnkmojiljmaaGreatB50
set_option maxRecDepth 100000
set_option maxHeartbeats 0
set_option linter.all false
namespace Go.Proofs
open Go Go.RowKit Go.Maps
section
variable [Lo.St]
theorem Lo.Oz {w:World} {B:Nat} {A:Option Addr} {l:List Int} {c m n:Nat} (h:RdU w B A l) (hu:U16 l) (hB:B<=w.heap.size) (hm:1<=m∧m<=4) (hn:n<=6):
 Calls Lo.prog 36 #[.int .i64 (n:Int),.int .i64 (m:Int),.slice A l.length c] w λe w'=>∃v,e= .returned v∧w'.ownsRow w.heap.size 3 1 v n (ints (pM n m l))∧Below w.heap.size w w':=by
 obtain ⟨U,U2,U3,U4,U5,U6⟩:=Lo.facts;have C:=Lo.call30;have C2:=Lo.call31;obtain ⟨i3,hi3,hz3,ay5,hz32⟩:=info_parts Lo.info3;obtain ⟨hm1,hm2⟩:=hm;have HR:=dw (aM h hu);clear h hu;have iw:IntKind.i64.wrap ((m:Int) - 1)=(m:Int) - 1:=by rw [cB];omega
 go_enter Lo.func36,Tryz.ntmps36;go_wp2
 go_loopw [7,8] (λv i wr=>∃j:Nat,j<=n∧i= .int .i64 (j:Int)∧wr.ownsRow w.heap.size 3 1 v j (ints (pM j m l))∧Below w.heap.size w wr) (λ_ i _=>n - (intOf i).toNat)
 case atStart=>exact ⟨0,bn _,rfl,World.ownsRow_nil _ _ _ _,di _ _⟩
 case round=>
  obtain ⟨j,hj,rfl,hown,hb⟩:=hrel
  by_cases hlt:j<n
  ·have hlt':(j:Int)<(n:Int):=by omega
   have hbs:=hb.size;have HO:=dw (aM hown hb);clear hown hb
   go_wp2_with (first
    |(go_at_call 30;refine (Lo.BV _ _ _).mono ?_;rintro e w1 ⟨rfl,rfl⟩)
    |(go_at_call 31;refine (Lo.VZ (B:=B) (HR.out.1.keep λx o h=>dU ((HO.out.2.alloc hbs (.cells #[.int .i64 0,.int .i64 ((m:Int) - 1)] 51))) x o (by omega)) HR.out.2 (by simp;omega) ⟨hm1,hm2⟩ (by omega)).mono ?_;rintro e w2 ⟨rfl,hb2⟩;have hb3:=(HO.out.2.alloc hbs (.cells #[.int .i64 0,.int .i64 ((m:Int) - 1)] 51)).trans (hb2.mono (by simp;omega));have hs3:=hb2.size;rw [World.size_alloc] at hs3;have ho3:=ownsRow.below (World.ownsRow.alloc HO.out.1 (.cells #[.int .i64 0,.int .i64 ((m:Int) - 1)] 51)) hb2;have H3:=dw (aM hb3 ho3);clear hb2 hb3 ho3)
    |(at_builtin;refine wpList_append_own _ rfl _ _ 44 rfl w.heap.size 3 i3 (.int .i64 0) 1 8 Lo.Iw hi3 hz3 ay5 hz32 rfl (by decide) _ j (ints (pM j m l)) rfl (World.ownsRow.alloc H3.out.2 _) ⟨w2.heap.size,0,none⟩ 1 1 [.int .i64 ((CL l m j:Nat):Int)] rfl rfl ?c1 ?c2 ?c3 ?c4 ?c5 ?_))
   case c1=>exact World.news_of_block (t:=3) (fr:=(0,0)) (cs:= #[.int .i64 ((CL l m j:Nat):Int)]) (cK _ _)
   case c2=>intro u hu;simp only [bE,ax,or_false] at hu;subst hu;rfl
   case c3=>unfold maxLen;omega
   case c4=>omega
   case c5=>rw [World.size_alloc];omega
   intro v3 X3 o3 g3 _;have hb4:Below w.heap.size w X3:=(H3.out.1.alloc (by omega) _).grown g3 (by rw [World.size_alloc];omega) (λk hk=>(H3.out.2.lt k hk).1)
   have o4:X3.ownsRow w.heap.size 3 1 v3 (j+1) (ints (pM (j+1) m l)):=by
    rw [Ko,V3];exact o3
   have K:=dw (aM o4 hb4);clear o3 g3 o4 hb4;go_wp2;go_roundw
   case rel=>exact ⟨j+1,hlt,by go_num,K.out.1,K.out.2⟩
   case measure=>simp [intOf];omega
  ·obtain rfl:j=n:=by omega
   have K:=dw (aM hown hb);clear hown hb;go_wp2;go_ret;exact ⟨_,rfl,K.out.1,K.out.2⟩
end
section
variable [Lo.St]
theorem ai0 {W:World} {base n:Nat} {v:Value} {xs:List Value} (h:W.ownsRow base 3 1 v n xs):∃A c,v= .slice A n c:=by
 rcases h.2 with ⟨rfl,rfl⟩|⟨g,cap,cur,rfl,_⟩
 ·exact ⟨none,0,rfl⟩
 ·exact ⟨_,_,rfl⟩
theorem V5 {W:World} {base n c:Nat} {A:Option Addr} {d:List Nat} (h:W.ownsRow base 3 1 (.slice A n c) n (ints d)) (hn:d.length=n):BJ W W.heap.size A (nums d):= λhl=>by
 rw [jT] at hl;rcases h.2 with ⟨_,rfl⟩|⟨g,cap,cur,e,hb,hg,_⟩
 ·omega
 ·cases e;refine ⟨g,0,rfl,(aI.1 hg).1, λi j hi hj=>?_⟩;obtain rfl:j=0:=by omega
  rw [jT] at hi;rw [show 0+(i*1+0)=i from by omega];have h1:=h.cells (g:=g) rfl i (.int .i64 ((d[i]:Nat):Int)) (by simp [ints,nums,hi]);have h2:(⟨g,0,none⟩:Addr).add i=⟨g,i,none⟩:=by unfold Addr.add;split<;>simp_all
  rw [h2] at h1;rw [h1];dsimp only;rw [aO (by rw [jT];exact hi),ak,zB hi]
theorem Lo.Yx {w:World} {B:Nat} {dK:List (Int×Int)} {cs:List (Int×Int×Int)} {A1 A2 A3:Option Addr} {c1 c2 c3 n3:Nat} (h5:VH) (h1:RS w B A1 dK) (h2:RU w B A2 cs) (hB:B<=w.heap.size) (limit:Int) (hno:40<dK.length∨40<cs.length∨eU dK cs limit≠0):
 Calls Lo.prog 10 #[.slice A1 dK.length c1,.slice A2 cs.length c2,.int .i64 limit,.slice A3 n3 c3] w λe w'=>e= .returned (.bool true):=by
 obtain ⟨U,U2,U3,U4,U5,U6⟩:=Lo.facts;have C:=Lo.call14;have C2:=Lo.call34;have H5:=dw h5;have HR:=dw (aM h1 h2);clear h5 h1 h2
 by_cases q1:40<dK.length
 ·have d1:(40:Int)<(dK.length:Int):=by omega
  clear hno q1;go_enter Lo.func10,Tryz.ntmps10
  go_wp2_with (go_at_call 14;refine (H5.out _).mono ?_;rintro e w1 ⟨rfl,rfl⟩)
  go_ret;rfl
 have d1:¬(40:Int)<(dK.length:Int):=by omega
 by_cases q2:40<cs.length
 ·have d2:(40:Int)<(cs.length:Int):=by omega
  clear hno q2;go_enter Lo.func10,Tryz.ntmps10
  go_wp2_with (go_at_call 14;refine (H5.out _).mono ?_;rintro e w1 ⟨rfl,rfl⟩)
  go_ret;rfl
 have d2:¬(40:Int)<(cs.length:Int):=by omega
 have hne:¬eU dK cs limit=0:=by
  rcases hno with h|h|h
  ·exact absurd h q1
  ·exact absurd h q2
  ·exact h
 generalize hcx:eU dK cs limit=cx at hne;have HX:=dw hcx;clear hcx;go_enter Lo.func10,Tryz.ntmps10
 go_wp2_with (first
  |(go_at_call 14;refine (H5.out _).mono ?_;rintro e w1 ⟨rfl,rfl⟩)
  |(go_at_call 34;refine (Lo.VF (B:=B) HR.out.1 HR.out.2 (by omega) (by omega) hB _).mono ?_;rintro e w1 ⟨rfl,hb1⟩;rw [HX.out]))
 go_ret;rfl
theorem Lo.V6 {w:World} {B:Nat} {dK:List (Int×Int)} {cs:List (Int×Int×Int)} {jQ:List Int} {A1 A2 A3:Option Addr} {c1 c2 c3:Nat} (h5:VH) (h1:RS w B A1 dK) (h2:RU w B A2 cs) (h3:RdU w B A3 jQ) (hu:U16 jQ) (hB:B<=w.heap.size) (limit:Int) (hz:eU dK cs limit=0):
 Calls Lo.prog 10 #[.slice A1 dK.length c1,.slice A2 cs.length c2,.int .i64 limit,.slice A3 jQ.length c3] w λe w'=>e= .returned (.bool true):=by
 obtain ⟨U,U2,U3,U4,U5,U6⟩:=Lo.facts;have C:=Lo.call14;have C2:=Lo.call34;have C3:=Lo.call35;have C4:=Lo.call36;have C5:=Lo.call37;have g:=Lc hz;have nl:=g.nl;obtain ⟨nc1,nc2⟩:=g.nc;have d1:¬(40:Int)<(dK.length:Int):=by omega
 have d2:¬(40:Int)<(cs.length:Int):=by omega
 have l1:dK.length<=64:=by omega
 have l2:cs.length<=64:=by omega
 have H5:=dw h5;have HX:=dw (aM hz (aM h1 (aM h2 (aM h3 (aM hu g)))));clear h5 h1 h2 h3 hu hz g;obtain ⟨o,ho⟩:∃o,pM dK.length cs.length jQ=o:=⟨_,rfl⟩;have hoS:uJ dK.length cs.length o:=ho ▸ Kr dK.length (by omega) jQ;have hol:=hoS.1;obtain ⟨hv,hhv⟩:∃x,gI dK cs o=x:=⟨_,rfl⟩;obtain ⟨yv,hyv⟩:∃x,kX dK cs o=x:=⟨_,rfl⟩;have HO:=dw (aM ho (aM hoS (aM hhv hyv)));clear ho hoS hhv hyv;have UX:=dw trivial;have UY:=dw trivial;have UZ:=dw trivial;have ar8:=dw trivial;have ar9:=dw trivial;go_enter Lo.func10,Tryz.ntmps10
 go_wp2_with (first
  |(go_at_call 14;refine (H5.out _).mono ?_;rintro e w5 ⟨rfl,rfl⟩)
  |(have t:=UX;clear UX t;go_at_call 34;refine (Lo.VF (B:=B) HX.out.2.1 HX.out.2.2.1 l1 l2 hB _).mono ?_;rintro e w1 ⟨rfl,hb1⟩;rw [HX.out.1];have H1:=dw hb1;clear hb1)
  |(have t:=UY;clear UY t;go_at_call 35;refine (Lo.IL (HX.out.2.1.keep λx o h=>dU H1.out x o (by omega)) (HX.out.2.2.1.keep λx o h=>dU H1.out x o (by omega)) l1 l2 (aT hB H1.out.size) _).mono ?_;rintro e w2 ⟨hb2,hx⟩;rw [aa (by rw [HX.out.1];simp)] at hx;obtain ⟨Aw,qw,who,hours,found,rfl,ji,jH⟩:=hx;have H2:=dw (aM (H1.out.trans (hb2.mono H1.out.size)) jH);clear hb2 jH;have hcas:=Oy HO.out.2.1 ji;clear ji;rw [HO.out.2.2.1,HO.out.2.2.2] at hcas;rcases hcas with ⟨rfl,rfl,rfl,hy⟩|⟨rfl,hws,hyw,hhw,hcmp⟩;rotate_left;have hwl:who.length=dK.length:=hws.1;have HW:=dw (aM hws (aM hyw (aM hhw hcmp)));clear hws hyw hhw hcmp)
  |(have t:=UZ;clear UZ t;go_at_call 36;refine (Lo.Oz (B:=B) (HX.out.2.2.2.1.keep λx o h=>dU H2.out.1 x o (by omega)) HX.out.2.2.2.2.1 (aT hB H2.out.1.size) ⟨nc1,nc2⟩ nl).mono ?_;rintro e w3 ⟨v,rfl,hov,hb3⟩;rw [HO.out.1] at hov;obtain ⟨Ao,qo,rfl⟩:=ai0 hov;have H3:=dw (aM (H2.out.1.trans (hb3.mono H2.out.1.size)) (aM (zN H2.out.2 hb3) hov));clear hb3 hov)
  |(have t:=ar8;clear ar8 t;go_at_call 37;have hc:=Lo.Ju (c1:=c1) (c2:=c2) (c3:=qo) (HX.out.2.1.keep λx o h=>dU H3.out.1 x o (by omega)) (HX.out.2.2.1.keep λx o h=>dU H3.out.1 x o (by omega)) (V5 H3.out.2.2 hol) (aT hB H3.out.1.size) HX.out.2.2.2.2.2 HO.out.2.1;rw [hol,HO.out.2.2.1,HO.out.2.2.2] at hc;refine hc.mono ?_;rintro e w4 ⟨rfl,hb4⟩;have H4:=dw (aM (H3.out.1.trans (hb4.mono H3.out.1.size)) (aM (zN H3.out.2.1 hb4) (ownsRow.below H3.out.2.2 hb4)));clear hb4 hc))
 ·
  obtain ⟨yw,hyw⟩:∃x,kX dK cs who=x:=⟨_,rfl⟩;have hyl:¬limit<yw:=by have :=HW.out.2.1;rw [hyw] at this;omega
  have HY:=dw hyw;clear hyw
  go_loopw [16] (λi wr=>∃k:Nat,k<=dK.length∧i= .int .i64 (k:Int)∧wr=w4) (λi _=>dK.length - (intOf i).toNat)
  case atStart=>exact ⟨0,bn _,rfl,rfl⟩
  case round=>
   obtain ⟨k,hk,rfl,rfl⟩:=hrel
   by_cases hlt:k<dK.length
   ·have hlt':(k:Int)<(dK.length:Int):=by omega
    obtain ⟨g,rfl, -,hg,hc⟩:=H4.out.2.1 (by omega);have r:=hc k (by omega);have hd:=HW.out.1.2 _ (aY (show k<who.length by omega));generalize who[k]'(by omega)=d at r hd;have hd1:¬((d:Int)<0):=by omega
    have hd2:¬((cs.length:Int)<=(d:Int)):=by omega
    clear hc;go_wp2;go_roundw
    case rel=>exact ⟨k+1,hlt,by go_num,trivial⟩
    case measure=>simp [intOf];omega
   ·obtain rfl:k=dK.length:=by omega
    go_wp2_with (first
     |(go_at_call 14;refine (H5.out _).mono ?_;rintro e w5 ⟨rfl,rfl⟩)
     |(have t:=ar9;clear ar9 t;go_at_call 37;have hc:=Lo.Ju (c1:=c1) (c2:=c2) (c3:=qw) (HX.out.2.1.keep λx o h=>dU H4.out.1 x o (by omega)) (HX.out.2.2.1.keep λx o h=>dU H4.out.1 x o (by omega)) (ah9 H4.out.2.1) (aT hB H4.out.1.size) HX.out.2.2.2.2.2 HW.out.1;rw [hwl,HW.out.2.2.1,HY.out] at hc;refine hc.mono ?_;rintro e w6 ⟨rfl,hb6⟩;have H6:=dw (aM (zN H4.out.2.1 hb6) (ownsRow.below H4.out.2.2 hb6));clear hb6 hc;by_cases hyv:yv<=limit;rcases HW.out.2.2.2 hyv with hcm|⟨hcm,hval⟩;have hn1:¬hv<hours:=(by omega);have hn2:¬hv=hours:=(by omega);rotate_left;subst hcm;have HV:=dw hval;clear hval;rotate_left;rotate_left))
    all_goals first
     |(go_ret;rfl)
     |skip
    go_loopw [19] (λi wr=>∃k:Nat,k<=dK.length∧i= .int .i64 (k:Int)∧Below w6.heap.size w6 wr∧who.take k=o.take k) (λi _=>dK.length - (intOf i).toNat)
    case atStart=>exact ⟨0,bn _,rfl,di _ _,by simp⟩
    case round=>
     obtain ⟨k,hk,rfl,hbw,htk⟩:=hrel
     by_cases hlt:k<dK.length
     ·have hlt':(k:Int)<(dK.length:Int):=by omega
      have hko:k<o.length:=by omega
      have hkw:k<who.length:=by omega
      obtain ⟨g,rfl, -,hg,hc⟩:=(zN H6.out.1 hbw) (by omega);have r:=hc k hkw;obtain ⟨g2,off2,rfl,hg2,hc2⟩:=V5 (ownsRow.below H6.out.2 hbw) hol (by rw [jT];omega);have r2:=Wd hc2 (by rw [jT];exact hko);rw [zB hko] at r2;have hle:=Ox (m:=cs.length) (by omega) hko HO.out.2.1.2 htk HV.out
      have hstep:who[k]=o[k]->who.take (k+1)=o.take (k+1):= λe=>by
       rw [bz hkw,bz hko,htk,e]
      generalize who[k]=d at r hle hstep;generalize o[k]=d2 at r2 hle hstep;have HS:=dw (aM hstep hbw);clear hc hc2 hstep htk hbw
      by_cases hdd:d=d2
      ·subst hdd;go_wp2
       go_still_tail 8,Lo.mixed
       change wpList _ _ _ _ _ wr.drew;go_wp2;go_roundw
       case rel=>exact ⟨k+1,hlt,by go_num,HS.out.2.drew,HS.out.1 trivial⟩
       case measure=>simp [intOf];omega
      ·have hd1:¬((d2:Int)=(d:Int)):=by omega
       have r':wr.drew.cell? ⟨g,k,none⟩=some (.int .i64 d):=r;have r2':wr.drew.cell? ⟨g2,off2+k,none⟩=some (.int .i64 d2):=r2;have hd2:(d:Int)<(d2:Int):=by omega
       go_wp2
       go_still_tail 8,Lo.mixed
       change wpList _ _ _ _ _ wr.drew;obtain ⟨Y,hY⟩:∃Y,wr.drew=Y:=⟨_,rfl⟩;rw [hY] at r' r2';rw [hY];clear hY;go_wp2
       go_still_tail 9,Lo.mixed
       change wpList _ _ _ _ _ Y.drew
       go_wp2_with (go_at_call 14;refine (H5.out _).mono ?_;rintro e w7 ⟨rfl,rfl⟩)
       go_ret;rfl
     ·obtain rfl:k=dK.length:=by omega
      go_wp2_with (go_at_call 14;refine (H5.out _).mono ?_;rintro e w7 ⟨rfl,rfl⟩)
      go_ret;rfl
 all_goals go_ret
 all_goals rfl
end
end Go.Proofs
