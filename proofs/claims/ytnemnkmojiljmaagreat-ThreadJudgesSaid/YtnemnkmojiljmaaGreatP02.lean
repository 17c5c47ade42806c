/- Part 2. -/
import Derived.BigRegion
import Derived.BigQuiet
import Derived.Deep.DeepMust
import Derived.Test.YtnemnkmojiljmaaGreatH28
import Derived.Test.YtnemnkmojiljmaaGreatP01
set_option maxRecDepth 100000
set_option maxHeartbeats 0
set_option linter.all false
section
namespace Go.Proofs
open Go Go.RowKit Go.Maps
variable [Lo.St]
theorem Lo.und83:Lo.prog.underlying 83=some (.slice 128):=(Lo.underlying 83).trans (by kernel_rfl)
theorem Lo.info128:(Lo.prog.info? 128).map (λi=>(i.zero,i.size,i.bytes))=some (some (.agg #[.int .i64 0,.int .i64 0,.int .i64 0,.int .i64 0]),4,32):=by
 rw [Lo.info];kernel_rfl
def cellsW (ss:List eX):List Value:=ss.flatMap λx=>[.int .i64 (x.fr:Int),.int .i64 (x.to:Int),.int .i64 x.lo,.int .i64 x.hi]
theorem cellsW_get:∀(ss:List eX) (i j:Nat),i<ss.length->j<4->(cellsW ss)[i*4+j]?=some (wayAt ss i j)
 |x::r,0,j,_,hj=>by
  obtain rfl|rfl|rfl|rfl:j=0∨j=1∨j=2∨j=3:=by omega
  all_goals rfl
 |x::r,i+1,j,hi,hj=>by
  show ([_,_,_,_]++cellsW r)[(i+1)*4+j]?=_
  rw [List.getElem?_append_right (by simp;omega)];have :=cellsW_get r i j (by simpa using hi) hj;rw [show (i+1)*4+j - [Value.int .i64 (x.fr:Int),.int .i64 (x.to:Int),.int .i64 x.lo,.int .i64 x.hi].length=i*4+j by simp;omega,this];rfl
theorem cellsW_one {l:List eX} {u:Value} (h:u∈cellsW l):u.oneCell'=true:=by
 unfold cellsW at h;obtain ⟨x,_,hx⟩:=List.mem_flatMap.1 h;simp only [List.mem_cons,List.not_mem_nil,or_false] at hx;rcases hx with rfl|rfl|rfl|rfl<;>rfl
theorem owns_mono {w:World} {base base' e size n:Nat} {v:Value} {xs:List Value} (h:w.ownsRow base e size v n xs) (hb:base'<=base):w.ownsRow base' e size v n xs:=by
 obtain ⟨h1,h2⟩:=h;refine ⟨h1,h2.imp id ?_⟩;rintro ⟨g,cap,cur,a,b,c,d⟩;exact ⟨g,cap,cur,a,Nat.le_trans hb b,c,d⟩
theorem cellsW_app (l r:List eX):cellsW (l++r)=cellsW l++cellsW r:=by unfold cellsW;rw [List.flatMap_append]
theorem Lo.rways_any {w:World} {B:Nat} {b:dO} {v:gJ} {x:Value} {hand:Int} (hx:x=dY b v) (hb:fC w B b v) (hB:B<=w.heap.size) (hs:b.small) (hc:fG b=0) (hh: -1<=hand∧hand<=64):
 Calls Lo.prog 46 #[x,.int .i64 hand] w λe w'=>∃v',e= .returned v'∧w'.ownsRow w.heap.size 128 4 v' (fA b hand).length (cellsW (fA b hand))∧Below w.heap.size w w':=by
 obtain ⟨U,U2,U3,U4,U5,U6⟩:=Lo.facts;have C:=Lo.call Tryz.func32;have C2:=Lo.call Tryz.func53;have C3:=Lo.call Tryz.func82;obtain ⟨i0,hi,hz0,hz1,hz2⟩:=info_parts Lo.info128;have hg:=lM hs hc;have hn8:=hg.n8;have ag1:=hg.p12;subst hx;obtain ⟨X,hX,sX,bX,hA,hC⟩:=book_box hb hB;have HC:=Lib.hid hC;have HA:=Lib.hid hA;have HX:=Lib.hid (And.intro hX bX);clear hX bX hA hC hb;show Calls Lo.prog 46 #[Value.agg (lN b v),_] w _;unfold lN;go_enter Lo.get Tryz.func46,Tryz.ntmps46;go_wp2;have hy:=HX.out.1;unfold lN at hy;rw [hy];clear hy;have hst:=hs.steps
 go_loopw [6,7] (λo i wr=>∃k:Nat,k<=b.dz.length∧i= .int .i64 (k:Int)∧wr.ownsRow X.heap.size 128 4 o k (cellsW (eG b k))∧Below X.heap.size X wr) (λ_ i _=>b.dz.length - (intOf i).toNat)
 case atStart=>exact ⟨0,Nat.zero_le _,rfl,World.ownsRow_nil _ _ _ _,Below.refl _ _⟩
 case round=>
  obtain ⟨k,hk,rfl,hown,hbw⟩:=hrel;obtain ⟨f0,f1,f2,f3⟩:=al8 (HC.out wr hbw)
  by_cases hlt:k<b.dz.length
  ·have hlt':(k:Int)<(b.dz.length:Int):=by omega
   obtain ⟨m1,m2⟩:=maker_first hc hlt;have u1:=user_first hc k;have hpl:eG b (k+1)=eG b k++ [mh b k]:=by unfold eG;rw [List.range_succ,List.map_append];rfl
   have hps:mh b k=⟨(je b.dA k).1,(je b.dA k).2,(tq b.steps k).toNat,((qO b.steps k).getD b.steps.length).toNat⟩:=rfl
   have ζx:∀W,Below X.heap.size X W->Calls Lo.prog 53 #[bkV b v,.int .i64 (k:Int),.int .i64 (b.steps.length:Int)] W λe w'=>e= .returned (.int .i64 ((tq b.steps k).toNat:Int))∧Below W.heap.size W w':= λW hW=>by
    have h:=Lo.rU (x:=bkV b v) (p:=(k:Int)) rfl (HA.out W hW) (by have :=hW.size;omega) hs (Nat.le_refl _);rw [List.take_length,m1] at h;exact h
   have δs:∀W,Below X.heap.size X W->Calls Lo.prog 32 #[bkV b v,.int .i64 (k:Int),.int .i64 (b.steps.length:Int)] W λe w'=>e= .returned (.int .i64 (gT k (b.steps.map dW.ins) 0))∧Below W.heap.size W w':= λW hW=>by
    have h:=Lo.Dj (x:=bkV b v) (p:=(k:Int)) rfl (HA.out W hW) (by have :=hW.size;omega) hs (Nat.le_refl _);rw [List.take_length] at h;exact h
   have kB:∀W,Below X.heap.size X W->Calls Lo.prog 82 #[bkV b v,.int .i64 (k:Int)] W λe w'=>e= .returned (.agg #[.int .i64 (je b.dA k).1,.int .i64 (je b.dA k).2])∧Below W.heap.size W w':= λW hW=>Lo.rbounds_any rfl (HA.out W hW) (by have :=hW.size;omega) hs
   rw [u1] at hps;generalize gT (k:Int) (b.steps.map dW.ins) 0=F at δs hps;obtain ⟨us,RN⟩:∃us:Nat,((if F<0 then none else some F:Option Int).getD b.steps.length).toNat=us:=⟨_,rfl⟩;rw [RN] at hps;generalize (tq b.steps k).toNat=mk at ζx hps;generalize (je b.dA k).1=lo at kB hps;generalize (je b.dA k).2=up at kB hps;have HK:=Lib.hid (And.intro ζx (And.intro δs kB));have HP:=Lib.hid (And.intro hpl hps);have HW:=Lib.hid (And.intro hown hbw);clear ζx δs kB hpl hps m1 m2 u1 hown hbw
   by_cases hF:F<0
   ·have hus':us=b.steps.length:=by rw [if_pos hF] at RN;simp at RN;omega
    clear RN;subst hus'
    go_wp2_with (go_at_call 32;with_reducible refine (HK.out.2.1 wr HW.out.2).mono ?_;rintro e w1 ⟨rfl,h1⟩;obtain ⟨f0,f1,f2,f3⟩:=al8 (HC.out w1 (HW.out.2.trans (h1.mono HW.out.2.size))))
    have hb1:=HW.out.2.trans (h1.mono HW.out.2.size);have hown1:=ownsRow.below HW.out.1 h1;have H1:=Lib.hid (And.intro hb1 hown1);have s1:=hb1.size;clear hb1 hown1 h1
    go_region_law (first
     |(go_simp;go_at_call 53;go_must (
       with_reducible refine (HK.out.1 _ ?b1).mono ?_
       case b1=>exact H1.out.1.drew
       rintro e w3 ⟨rfl,h3⟩;replace h3:Below w1.heap.size w1 w3:=((Below.refl w1.heap.size w1).drew).trans h3;obtain ⟨f0,f1,f2,f3⟩:=al8 (HC.out w3 (H1.out.1.trans (Below.mono h3 s1)));have H3:=Lib.hid h3;clear h3))
     |(go_simp;go_at_call 82;go_must (
       with_reducible refine (HK.out.2.2 _ ?b1).mono ?_
       case b1=>exact H1.out.1.trans (H3.out.mono s1)
       rintro e w4 ⟨rfl,h4⟩;have hb4:=(H1.out.1.trans (H3.out.mono s1)).trans (h4.mono (Nat.le_trans s1 H3.out.size));have AA:=ownsRow.below (ownsRow.below H1.out.2 H3.out) h4;obtain ⟨f0,f1,f2,f3⟩:=al8 (HC.out w4 hb4);have H4:=Lib.hid (And.intro hb4 AA);have s4:=hb4.size;clear h4 hb4 AA))
     |(refine step_append_opt rfl (.tmp 28) (.tmp 38) 83 rfl X.heap.size 128 i0 (.agg #[.int .i64 0,.int .i64 0,.int .i64 0,.int .i64 0]) 4 32 Lo.und83 hi hz0 hz1 hz2 rfl (by decide) _ k (cellsW (eG b k)) rfl (H4.out.2.alloc _) (some ⟨_,0,none⟩) 1 1 (cellsW [⟨lo,up,mk,b.steps.length⟩]) rfl rfl ?hn (λe=>by cases e) (λu hu=>cellsW_one hu) (by unfold maxLen;omega) (by omega) (by simp;omega) ?_
       case hn=>
        intro ad e;cases e;exact World.news_of_block (t:=128) (fr:=(0,0)) (cs:= #[.int .i64 (mk:Int),.int .i64 (b.steps.length:Int),.int .i64 lo,.int .i64 up]) (World.alloc_heap_new _ _)
       intro v5 w5 a1 a2;have hb5:=Below.grown (H4.out.1.alloc s4 _) a2 (by simp;omega) (λj hj=>(H4.out.2.lt j hj).1);have H5:=Lib.hid (And.intro hb5 a1);clear hb5 a1 a2))
    all_goals
     go_wp2;go_roundw
    all_goals first
     |exact ⟨k+1,by omega,by go_num,by rw [HP.out.1,cellsW_app,HP.out.2];exact H5.out.2,H5.out.1⟩
     |(simp [intOf];omega)
   ·have hus':F=(us:Int):=by rw [if_neg hF] at RN;simp at RN;omega
    clear RN;subst hus'
    go_wp2_with (go_at_call 32;with_reducible refine (HK.out.2.1 wr HW.out.2).mono ?_;rintro e w1 ⟨rfl,h1⟩;obtain ⟨f0,f1,f2,f3⟩:=al8 (HC.out w1 (HW.out.2.trans (h1.mono HW.out.2.size))))
    have hb1:=HW.out.2.trans (h1.mono HW.out.2.size);have hown1:=ownsRow.below HW.out.1 h1;have H1:=Lib.hid (And.intro hb1 hown1);have s1:=hb1.size;clear hb1 hown1 h1
    go_region_law (first
     |(go_simp;go_at_call 53;go_must (
       with_reducible refine (HK.out.1 _ ?b1).mono ?_
       case b1=>exact H1.out.1.drew
       rintro e w3 ⟨rfl,h3⟩;replace h3:Below w1.heap.size w1 w3:=((Below.refl w1.heap.size w1).drew).trans h3;obtain ⟨f0,f1,f2,f3⟩:=al8 (HC.out w3 (H1.out.1.trans (Below.mono h3 s1)));have H3:=Lib.hid h3;clear h3))
     |(go_simp;go_at_call 82;go_must (
       with_reducible refine (HK.out.2.2 _ ?b1).mono ?_
       case b1=>exact H1.out.1.trans (H3.out.mono s1)
       rintro e w4 ⟨rfl,h4⟩;have hb4:=(H1.out.1.trans (H3.out.mono s1)).trans (h4.mono (Nat.le_trans s1 H3.out.size));have AA:=ownsRow.below (ownsRow.below H1.out.2 H3.out) h4;obtain ⟨f0,f1,f2,f3⟩:=al8 (HC.out w4 hb4);have H4:=Lib.hid (And.intro hb4 AA);have s4:=hb4.size;clear h4 hb4 AA))
     |(refine step_append_opt rfl (.tmp 28) (.tmp 38) 83 rfl X.heap.size 128 i0 (.agg #[.int .i64 0,.int .i64 0,.int .i64 0,.int .i64 0]) 4 32 Lo.und83 hi hz0 hz1 hz2 rfl (by decide) _ k (cellsW (eG b k)) rfl (H4.out.2.alloc _) (some ⟨_,0,none⟩) 1 1 (cellsW [⟨lo,up,mk,us⟩]) rfl rfl ?hn (λe=>by cases e) (λu hu=>cellsW_one hu) (by unfold maxLen;omega) (by omega) (by simp;omega) ?_
       case hn=>
        intro ad e;cases e;exact World.news_of_block (t:=128) (fr:=(0,0)) (cs:= #[.int .i64 (mk:Int),.int .i64 (us:Int),.int .i64 lo,.int .i64 up]) (World.alloc_heap_new _ _)
       intro v5 w5 a1 a2;have hb5:=Below.grown (H4.out.1.alloc s4 _) a2 (by simp;omega) (λj hj=>(H4.out.2.lt j hj).1);have H5:=Lib.hid (And.intro hb5 a1);clear hb5 a1 a2))
    all_goals
     go_wp2;go_roundw
    all_goals first
     |exact ⟨k+1,by omega,by go_num,by rw [HP.out.1,cellsW_app,HP.out.2];exact H5.out.2,H5.out.1⟩
     |(simp [intOf];omega)
  ·obtain rfl:k=b.dz.length:=by omega
   have HW:=Lib.hid (And.intro hown hbw);clear hown hbw;go_wp2
   go_loopw [6,9] (λo i wr=>∃k:Nat,k<=b.steps.length∧i= .int .i64 (k:Int)∧wr.ownsRow X.heap.size 128 4 o (b.dz.length+2*k) (cellsW (eG b b.dz.length++fq b hand k))∧Below X.heap.size X wr) (λ_ i _=>b.steps.length - (intOf i).toNat)
   case atStart=>exact ⟨0,Nat.zero_le _,rfl,by show wr.ownsRow _ _ _ _ _ (cellsW (eG b b.dz.length++ []));rw [List.append_nil];exact HW.out.1,HW.out.2⟩
   case round=>
    obtain ⟨k,hk,rfl,hown,hbw⟩:=hrel;obtain ⟨f0,f1,f2,f3⟩:=al8 (HC.out _ hbw);have s1:=hbw.size
    by_cases hlt:k<b.steps.length
    ·have hlt':(k:Int)<(b.steps.length:Int):=by omega
     obtain ⟨bb,off,e,hbb,hcl⟩:=(HA.out _ hbw).steps (by omega);obtain ⟨r0, -, -,r3,r4,r5,r6⟩:=sZ hcl hlt
     have hss:fq b hand (k+1)=fq b hand k++nT b.steps.length hand k b.steps[k]:=by
      rw [fq,List.getElem?_eq_getElem hlt]
     generalize b.steps[k]=s at r0 r3 r4 r5 r6 hss;rw [e] at f2;have hcw:cellsW (eG b b.dz.length++fq b hand (k+1))=cellsW (eG b b.dz.length++fq b hand k)++cellsW (nT b.steps.length hand k s):=by rw [hss, <-List.append_assoc,cellsW_app]
     have HR:=Lib.hid (And.intro hown (And.intro hbw hcw));clear hown hbw hcw hss hcl e
     by_cases hq:s.hand=hand
     ·have hst2:nT b.steps.length hand k s= [⟨s.g0,s.g1,b.steps.length,k⟩,⟨s.l0,s.l1,k,b.steps.length+1⟩]:=by unfold nT;rw [if_pos hq]
      have HST:=Lib.hid hst2;clear hst2;go_wp2
      go_region_law (first
       |(refine step_append_opt rfl (.tmp 56) (.tmp 75) 83 rfl X.heap.size 128 i0 (.agg #[.int .i64 0,.int .i64 0,.int .i64 0,.int .i64 0]) 4 32 Lo.und83 hi hz0 hz1 hz2 rfl (by decide) _ (b.dz.length+2*k) (cellsW (eG b b.dz.length++fq b hand k)) rfl ((HR.out.1.alloc _).drew) (some ⟨_,0,none⟩) 2 2 (cellsW [⟨s.g0,s.g1,b.steps.length,k⟩,⟨s.l0,s.l1,k,b.steps.length+1⟩]) rfl rfl ?hn (λe=>by cases e) (λu hu=>cellsW_one hu) (by unfold maxLen;omega) (by omega) (by simp;omega) ?_
         case hn=>
          intro ad e;cases e;exact World.news_of_block (t:=128) (fr:=(0,0)) (cs:= #[.int .i64 (b.steps.length:Int),.int .i64 (k:Int),.int .i64 s.g0,.int .i64 s.g1,.int .i64 (k:Int),.int .i64 ((b.steps.length+1:Nat):Int),.int .i64 s.l0,.int .i64 s.l1]) (World.alloc_heap_new _ _)
         intro v5 w5 a1 a2;have hb5:=Below.grown ((HR.out.2.1.drew.alloc s1 _)) a2 (by simp;omega) (λj hj=>(HR.out.1.lt j hj).1);have H5:=Lib.hid (And.intro hb5 a1);clear hb5 a1 a2))
      all_goals
       go_wp2;go_roundw
      all_goals first
       |exact ⟨k+1,by omega,by go_num,by rw [HR.out.2.2,HST.out];exact H5.out.2,H5.out.1⟩
       |(simp [intOf];omega)
     ·have hst2:nT b.steps.length hand k s= [⟨s.g0,s.g1,b.steps.length,k⟩,⟨s.l0,s.l1,k,b.steps.length⟩]:=by unfold nT;rw [if_neg hq]
      have HST:=Lib.hid hst2;clear hst2;go_wp2
      go_region_law (first
       |(refine step_append_opt rfl (.tmp 56) (.tmp 75) 83 rfl X.heap.size 128 i0 (.agg #[.int .i64 0,.int .i64 0,.int .i64 0,.int .i64 0]) 4 32 Lo.und83 hi hz0 hz1 hz2 rfl (by decide) _ (b.dz.length+2*k) (cellsW (eG b b.dz.length++fq b hand k)) rfl ((HR.out.1.alloc _).drew) (some ⟨_,0,none⟩) 2 2 (cellsW [⟨s.g0,s.g1,b.steps.length,k⟩,⟨s.l0,s.l1,k,b.steps.length⟩]) rfl rfl ?hn (λe=>by cases e) (λu hu=>cellsW_one hu) (by unfold maxLen;omega) (by omega) (by simp;omega) ?_
         case hn=>
          intro ad e;cases e;exact World.news_of_block (t:=128) (fr:=(0,0)) (cs:= #[.int .i64 (b.steps.length:Int),.int .i64 (k:Int),.int .i64 s.g0,.int .i64 s.g1,.int .i64 (k:Int),.int .i64 ((b.steps.length:Nat):Int),.int .i64 s.l0,.int .i64 s.l1]) (World.alloc_heap_new _ _)
         intro v5 w5 a1 a2;have hb5:=Below.grown ((HR.out.2.1.drew.alloc s1 _)) a2 (by simp;omega) (λj hj=>(HR.out.1.lt j hj).1);have H5:=Lib.hid (And.intro hb5 a1);clear hb5 a1 a2))
      all_goals
       go_wp2;go_roundw
      all_goals first
       |exact ⟨k+1,by omega,by go_num,by rw [HR.out.2.2,HST.out];exact H5.out.2,H5.out.1⟩
       |(simp [intOf];omega)
    ·obtain rfl:k=b.steps.length:=by omega
     have HR:=Lib.hid (And.intro hown hbw);clear hown hbw;have hX0:Below w.heap.size w X:=HX.out.2
     by_cases hh0:0<=hand
     ·have hwl:fA b hand=eG b b.dz.length++fq b hand b.steps.length++ [⟨0,8000000,b.steps.length+1,b.steps.length⟩]:=by unfold fA;rw [if_pos hh0]
      have hln:=yR b hand;rw [if_pos hh0] at hln;have HL:=Lib.hid (And.intro hwl (And.intro hln hX0));clear hwl hln hX0
      go_wp2_with (at_builtin;refine wpList_append_own _ rfl _ _ 83 rfl X.heap.size 128 i0 (.agg #[.int .i64 0,.int .i64 0,.int .i64 0,.int .i64 0]) 4 32 Lo.und83 hi hz0 hz1 hz2 rfl (by decide) _ (b.dz.length+2*b.steps.length) (cellsW (eG b b.dz.length++fq b hand b.steps.length)) rfl (HR.out.1.alloc _) ⟨wr.heap.size,0,none⟩ 1 1 (cellsW [⟨0,8000000,b.steps.length+1,b.steps.length⟩]) rfl rfl (World.news_of_block (t:=128) (fr:=(0,0)) (cs:= #[.int .i64 ((b.steps.length+1:Nat):Int),.int .i64 (b.steps.length:Int),.int .i64 0,.int .i64 8000000]) (World.alloc_heap_new _ _)) (λu hu=>cellsW_one hu) (by unfold maxLen;omega) (by omega) (by simp;omega) ?_)
      intro v5 w5 a1 a2 _;have hb5:=Below.grown (HR.out.2.alloc s1 _) a2 (by simp;omega) (λj hj=>(HR.out.1.lt j hj).1);have H5:=Lib.hid (And.intro a1 (HL.out.2.2.trans (hb5.mono (by omega))));clear a1 a2 hb5;go_wp2;go_ret;exact ⟨v5,rfl,by rw [HL.out.1,cellsW_app];exact (by have h:=owns_mono H5.out.1 (base':=w.heap.size) (by omega);rwa [<-HL.out.2.1,HL.out.1] at h),H5.out.2⟩
     ·have hwl:fA b hand=eG b b.dz.length++fq b hand b.steps.length:=by unfold fA;rw [if_neg hh0,List.append_nil]
      have hln:=yR b hand;rw [if_neg hh0] at hln;have HL:=Lib.hid (And.intro hwl (And.intro hln hX0));clear hwl hln hX0;go_wp2;go_ret;exact ⟨u6,rfl,by rw [HL.out.1];exact (by have h:=owns_mono HR.out.1 (base':=w.heap.size) (by omega);rwa [<-show (fA b hand).length=b.dz.length+2*b.steps.length from HL.out.2.1,HL.out.1] at h),HL.out.2.2.trans (HR.out.2.mono (by omega))⟩
end Go.Proofs
end
section
namespace Go.Proofs
open Go Go.RowKit Go.Maps
variable [Lo.St]
theorem Lo.rways_rd {w:World} {B:Nat} {b:dO} {v:gJ} {x:Value} {hand:Int} (hx:x=dY b v) (hb:fC w B b v) (hB:B<=w.heap.size) (hs:b.small) (hc:fG b=0) (hh: -1<=hand∧hand<=64):
 Calls Lo.prog 46 #[x,.int .i64 hand] w λe w'=>∃A cap,e= .returned (.slice A (fA b hand).length cap)∧RdW w' w'.heap.size A (fA b hand)∧Below w.heap.size w w':=by
 refine (Lo.rways_any hx hb hB hs hc hh).mono ?_
 rintro e w' ⟨v',rfl,hown,hbl⟩;obtain ⟨A,cap,rfl, -,hr⟩:=ownsRow.rd (B:=w'.heap.size) (f:=wayAt (fA b hand)) hown (λi j hi hj=>cellsW_get _ i j hi hj);exact ⟨A,cap,rfl,hr _ (Nat.le_refl _) (Nat.le_refl _),hbl⟩
theorem Lo.rcanb_any {w:World} {B:Nat} {b:dO} {v:gJ} {x:Value} (hx:x=dY b v) (hb:fC w B b v) (hB:B<=w.heap.size) (hs:b.small) (hc:fG b=0):
 Calls Lo.prog 44 #[x] w λe w'=>e= .returned (.bool (qR b))∧Below w.heap.size w w':=by
 obtain ⟨U,U2,U3,U4,U5,U6⟩:=Lo.facts;have C:=Lo.call Tryz.func46;have C2:=Lo.call Tryz.func80;have hg:=lM hs hc;have hn8:=hg.n8;subst hx;obtain ⟨X,hX,sX,bX,hA,hC⟩:=book_box hb hB;have HC:=Lib.hid hC;have HA:=Lib.hid hA;have HX:=Lib.hid (And.intro hX bX);clear hX bX hA hC hb;obtain ⟨f0,f1,f2,f3⟩:=al8 (HC.out X (Below.refl _ _));show Calls Lo.prog 44 #[Value.agg (lN b v)] w _;unfold lN;go_enter Lo.get Tryz.func44,Tryz.ntmps44;go_wp2;have hy:=HX.out.1;unfold lN at hy;rw [hy];clear hy;have hok:=MN b (-1) hg;have hle:=MR b (-1) hg;have hnd:=Dh b (-1) hg;have hnn:dZ b (-1)=b.steps.length+1:=rfl;have HW:=Lib.hid (And.intro hok (And.intro hle (And.intro hnd hnn)));clear hok hle hnd hnn;have hwr:IntKind.i64.wrap ((b.steps.length:Int)+1)=(b.steps.length:Int)+1:=by rw [IntKind.wrap_i64];omega
 go_region_law (first
  |(go_simp;go_at_call 46;go_must (
    refine (Lo.rways_rd (b:=b) (v:=v) (B:=B) (hand:= -1) rfl (HA.out _ ?b1) ?b2 hs hc (by omega)).mono ?_
    case b1=>exact (Below.refl _ _).drew
    case b2=>show B<=X.heap.size;omega
    rintro e w3 ⟨A,cap,rfl,hr,h3⟩;replace h3:Below X.heap.size X w3:=((Below.refl X.heap.size X).drew).trans h3;obtain ⟨f0,f1,f2,f3⟩:=al8 (HC.out w3 h3);have H3:=Lib.hid (And.intro h3 hr);clear h3 hr))
  |(go_simp;go_at_call 80;go_must (
    have hcan:Calls Lo.prog 80 #[.slice A (fA b (-1)).length cap,.int .i64 ((b.steps.length:Int)+1)] w3 λe w'=>e= .returned (.bool (qR b))∧Below w3.heap.size w3 w':=by
     have h:=Lo.rcan_any (cap:=cap) (nd:=dZ b (-1)) H3.out.2 HW.out.1 HW.out.2.1 (Nat.le_refl _) HW.out.2.2.1
     rwa [show ((dZ b (-1):Nat):Int)=(b.steps.length:Int)+1 from by rw [HW.out.2.2.2];omega] at h
    with_reducible refine hcan.mono ?_
    rintro e w4 ⟨rfl,h4⟩;have H4:=Lib.hid (H3.out.1.trans (h4.mono H3.out.1.size));clear h4 hcan)))
 all_goals
  go_wp2;go_ret
 all_goals exact ⟨rfl,HX.out.2.trans (H4.out.mono (by omega))⟩
end Go.Proofs
end
