/- Part 7. -/
import Derived.Test.YtnemnkmojiljmaaGreatN05
set_option maxRecDepth 100000
set_option maxHeartbeats 0
set_option linter.all false
section
namespace Go.Proofs
open Go Go.RowKit Go.Maps
variable [Lo.St]
def RSpanPost (w:World) (b:dO) (n:Nat) (f:Nat->Nat) (e:Ending) (w':World):Prop:=
 Below w.heap.size w w'∧
 if fG b≠0 then e= .returned (.tuple #[.slice none 0 0,.int .i64 (fG b)])
 else if qR b=true then ∃A cap,e= .returned (.tuple #[.slice A n cap,.int .i64 0])∧Rd w' w'.heap.size 2 A n (λi j=>.int .i64 (if j=0 then lowAt (p8 b) (f i) else highAt (p8 b) (f i)))
 else e= .returned (.tuple #[.slice none 0 0,.int .i64 9])
theorem Lo.rspan_v {w:World} {B:Nat} {b:dO} {A:Option Addr} {cap k:Nat} (hg:b.good) (hr:RdW w B A (fA b (-1))) (hB:B<=w.heap.size) (hk:k<(fA b (-1)).length):
 Calls Lo.prog 45 #[.slice A (fA b (-1)).length cap,.int .i64 ((b.steps.length:Int)+1),.int .i64 (k:Int)] w λe w'=>e= .returned (.agg #[.int .i64 (lowAt (p8 b) k),.int .i64 (highAt (p8 b) k)])∧Below w.heap.size w w':=by
 have h:=Lo.rspan_any (cap:=cap) (nd:=dZ b (-1)) hr (MN b (-1) hg) (MR b (-1) hg) hB (Dh b (-1) hg) hk
 rwa [show ((dZ b (-1):Nat):Int)=(b.steps.length:Int)+1 from by rw [show dZ b (-1)=b.steps.length+1 from rfl];omega] at h
def spanC (b:dO) (f:Nat->Nat):Nat->List Value
 |0=>[]
 |k+1=>spanC b f k++ [.int .i64 (lowAt (p8 b) (f k)),.int .i64 (highAt (p8 b) (f k))]
theorem spanC_len (b:dO) (f:Nat->Nat):∀k,(spanC b f k).length=k*2
 |0=>rfl
 |k+1=>by unfold spanC;rw [List.length_append,spanC_len b f k];simp;omega
theorem spanC_get (b:dO) (f:Nat->Nat):∀(k i j:Nat),i<k->j<2->(spanC b f k)[i*2+j]?=some (.int .i64 (if j=0 then lowAt (p8 b) (f i) else highAt (p8 b) (f i)))
 |k+1,i,j,hi,hj=>by
  have hl:=spanC_len b f k;unfold spanC
  by_cases e:i=k
  ·subst e;rw [List.getElem?_append_right (by omega),hl,show i*2+j - i*2=j by omega];obtain rfl|rfl:j=0∨j=1:=by omega
   ·rfl
   ·rfl
  ·rw [List.getElem?_append_left (by omega)];exact spanC_get b f k i j (by omega) hj
theorem Lo.rmasses_any {w:World} {B:Nat} {b:dO} {v:gJ} {x:Value} (hx:x=dY b v) (hb:fC w B b v) (hB:B<=w.heap.size) (hs:b.small) (hbc:GG b v):
 Calls Lo.prog 16 #[x] w (RSpanPost w b b.dz.length id):=by
 obtain ⟨U,U2,U3,U4,U5,U6⟩:=Lo.facts;have C:=Lo.call Tryz.func18;have C2:=Lo.call Tryz.func44;have C3:=Lo.call Tryz.func46;have C4:=Lo.call Tryz.func45;obtain ⟨i0,hi,hz0,hz1,hz2⟩:=info_parts Lo.Rx;subst hx;obtain ⟨X,hX,sX,bX,hA,hC⟩:=book_box hb hB;have HC:=Lib.hid hC;have HA:=Lib.hid hA;have HX:=Lib.hid (And.intro hX bX);have HBC:=Lib.hid hbc;clear hX bX hA hC hb hbc;obtain ⟨f0,f1,f2,f3⟩:=al8 (HC.out X (Below.refl _ _))
 have hR:∀e w',Below X.heap.size X w'->(if fG b≠0 then e= .returned (.tuple #[.slice none 0 0,.int .i64 (fG b)])
  else if qR b=true then ∃A cap,e= .returned (.tuple #[.slice A b.dz.length cap,.int .i64 0])∧Rd w' w'.heap.size 2 A b.dz.length (λi j=>.int .i64 (if j=0 then lowAt (p8 b) (id i) else highAt (p8 b) (id i)))
  else e= .returned (.tuple #[.slice none 0 0,.int .i64 9]))->RSpanPost w b b.dz.length id e w':= λe w' h1 h2=>⟨HX.out.2.trans (h1.mono (by omega)),h2⟩
 have HR:=Lib.hid hR;clear hR;show Calls Lo.prog 16 #[Value.agg (lN b v)] w _;unfold lN;go_enter Lo.get Tryz.func16,Tryz.ntmps16;go_wp2;have hy:=HX.out.1;unfold lN at hy;rw [hy];clear hy;refine (Lo.YR (b:=b) (v:=v) (B:=B) rfl (HA.out X (Below.refl _ _)) (by omega) hs HBC.out).mono ?_
 rintro e w1 ⟨rfl,h1⟩;obtain ⟨f0,f1,f2,f3⟩:=al8 (HC.out w1 h1);obtain ⟨cx,hcx⟩:∃cx,fG b=cx:=⟨_,rfl⟩;rw [hcx]
 by_cases z:cx=0
 case neg=>
  have WV:=Lib.hid (And.intro hcx h1);clear hcx h1;go_wp2
  go_ret2
  refine HR.out _ _ WV.out.2 ?_
  rw [if_pos (by rw [WV.out.1];exact z),WV.out.1];rfl
 subst z;have hg:=lM hs hcx;have hn8:=hg.n8;have ag1:=hg.p12;have hwl:=yR b (-1);rw [if_neg (by omega)] at hwl;have WV:=Lib.hid (And.intro hcx (And.intro h1 (And.intro hg hwl)));clear hcx h1 hg hwl;go_wp2;refine (Lo.rcanb_any (b:=b) (v:=v) (B:=B) rfl (HA.out w1 WV.out.2.1) (by have :=WV.out.2.1.size;omega) hs WV.out.1).mono ?_
 rintro e w2 ⟨rfl,h2⟩;replace h2:=WV.out.2.1.trans (h2.mono WV.out.2.1.size);clear f0 f1 f2 f3;obtain ⟨f0,f1,f2,f3⟩:=al8 (HC.out w2 h2);obtain ⟨hh,hhe⟩:∃hh,qR b=hh:=⟨_,rfl⟩;rw [hhe];cases hh with
 |false=>
  have HX3:=Lib.hid (And.intro hhe h2);clear hhe h2;go_wp2
  go_ret2
  refine HR.out _ _ HX3.out.2 ?_
  rw [if_neg (by rw [WV.out.1];simp),if_neg (by rw [HX3.out.1];simp)];rfl
 |true=>
  have HX3:=Lib.hid (And.intro hhe h2);clear hhe h2;go_wp2;have sz2:X.heap.size<=w2.heap.size:=HX3.out.2.size
  go_loopw [5,6] (λo i wr=>∃k:Nat,k<=b.dz.length∧i= .int .i64 (k:Int)∧wr.ownsRow w2.heap.size 51 2 o k (spanC b id k)∧Below w2.heap.size w2 wr) (λ_ i _=>b.dz.length - (intOf i).toNat)
  case atStart=>exact ⟨0,Nat.zero_le _,rfl,World.ownsRow_nil _ _ _ _,Below.refl _ _⟩
  case round=>
   obtain ⟨k,hk,rfl,hown,hbw⟩:=hrel;have hXr:=HX3.out.2.trans (hbw.mono sz2);obtain ⟨f0,f1,f2,f3⟩:=al8 (HC.out wr hXr);have szr:w2.heap.size<=wr.heap.size:=hbw.size;have HW:=Lib.hid (And.intro hown (And.intro hbw hXr));clear hown hbw hXr
   by_cases hlt:k<b.dz.length
   ·have hlt':(k:Int)<(b.dz.length:Int):=by omega
    have hwr:IntKind.i64.wrap ((b.steps.length:Int)+1)=(b.steps.length:Int)+1:=by rw [IntKind.wrap_i64];omega
    have hkl:k<(fA b (-1)).length:=by rw [WV.out.2.2.2];omega
    obtain ⟨lo,hlo⟩:∃lo,lowAt (p8 b) k=lo:=⟨_,rfl⟩;obtain ⟨up,hup⟩:∃up,highAt (p8 b) k=up:=⟨_,rfl⟩;have hsc:spanC b id (k+1)=spanC b id k++ [.int .i64 lo,.int .i64 up]:=by rw [<-hlo, <-hup];rfl
    have HSC:=Lib.hid (And.intro hsc (And.intro hlo hup));clear hsc hlo hup;go_wp2
    go_region_law (first
     |(go_simp;go_at_call 46;go_must (
       refine (Lo.rways_rd (b:=b) (v:=v) (B:=B) (hand:= -1) rfl (HA.out _ ?b1) ?b2 hs WV.out.1 (by omega)).mono ?_
       case b1=>exact HW.out.2.2.drew
       case b2=>show B<=wr.heap.size;omega
       rintro e w3 ⟨A,cap,rfl,hr,h3⟩;replace h3:Below wr.heap.size wr w3:=((Below.refl wr.heap.size wr).drew).trans h3;obtain ⟨f0,f1,f2,f3⟩:=al8 (HC.out w3 (HW.out.2.2.trans (h3.mono (by omega))));have s3:wr.heap.size<=w3.heap.size:=h3.size;have H3:=Lib.hid (And.intro h3 hr);clear h3 hr))
     |(go_simp;go_at_call 45;go_must (
       with_reducible refine (Lo.rspan_v WV.out.2.2.1 H3.out.2 (Nat.le_refl _) hkl).mono ?_
       rintro e w4 ⟨rfl,h4⟩;rw [HSC.out.2.1,HSC.out.2.2];have s4:w3.heap.size<=w4.heap.size:=h4.size;have H4:=Lib.hid (And.intro (HW.out.2.1.trans ((H3.out.1.trans (h4.mono s3)).mono szr)) (ownsRow.below (ownsRow.below HW.out.1 H3.out.1) h4));clear h4))
     |(refine step_append_opt rfl (.tmp 22) (.tmp 31) 29 rfl w2.heap.size 51 i0 (.agg #[.int .i64 0,.int .i64 0]) 2 16 Lo.WS hi hz0 hz1 hz2 rfl (by decide) _ k (spanC b id k) rfl (H4.out.2.alloc _) (some ⟨_,0,none⟩) 1 1 [.int .i64 lo,.int .i64 up] rfl rfl ?hn (λe=>by cases e) (λu hu=>by simp at hu;rcases hu with rfl|rfl<;>rfl) (by unfold maxLen;omega) (by omega) (by simp;omega) ?_
       case hn=>
        intro ad e;cases e;exact World.news_of_block (t:=51) (fr:=(0,0)) (cs:= #[.int .i64 lo,.int .i64 up]) (World.alloc_heap_new _ _)
       intro v5 w5 a1 a2;have hb5:=Below.grown (H4.out.1.alloc (by omega) _) a2 (by simp;omega) (λj hj=>(H4.out.2.lt j hj).1);have H5:=Lib.hid (And.intro hb5 a1);clear hb5 a1 a2))
    all_goals
     go_wp2;go_roundw
    all_goals first
     |exact ⟨k+1,by omega,by go_num,by rw [HSC.out.1];exact H5.out.2,H5.out.1⟩
     |(simp [intOf];omega)
   ·obtain rfl:k=b.dz.length:=by omega
    obtain ⟨A2,cap2,rfl, -,hr2⟩:=ownsRow.rd (B:=wr.heap.size) HW.out.1 (λi j hi hj=>spanC_get b id _ i j hi hj);have HR2:=Lib.hid (hr2 _ (Nat.le_refl _) (Nat.le_refl _));clear hr2;go_wp2
    go_ret2
    refine HR.out _ _ HW.out.2.2 ?_
    rw [if_neg (by rw [WV.out.1];simp),if_pos HX3.out.1];exact ⟨A2,cap2,rfl,HR2.out⟩
end Go.Proofs
end
section
namespace Go.Proofs
open Go Go.RowKit Go.Maps
variable [Lo.St]
theorem Lo.rlosses_any {w:World} {B:Nat} {b:dO} {v:gJ} {x:Value} (hx:x=dY b v) (hb:fC w B b v) (hB:B<=w.heap.size) (hs:b.small) (hbc:GG b v):
 Calls Lo.prog 21 #[x] w (RSpanPost w b b.steps.length (λi=>b.dz.length+2*i+1)):=by
 obtain ⟨U,U2,U3,U4,U5,U6⟩:=Lo.facts;have C:=Lo.call Tryz.func18;have C2:=Lo.call Tryz.func44;have C3:=Lo.call Tryz.func46;have C4:=Lo.call Tryz.func45;obtain ⟨i0,hi,hz0,hz1,hz2⟩:=info_parts Lo.Rx;subst hx;obtain ⟨X,hX,sX,bX,hA,hC⟩:=book_box hb hB;have HC:=Lib.hid hC;have HA:=Lib.hid hA;have HX:=Lib.hid (And.intro hX bX);have HBC:=Lib.hid hbc;clear hX bX hA hC hb hbc;obtain ⟨f0,f1,f2,f3⟩:=al8 (HC.out X (Below.refl _ _))
 have hR:∀e w',Below X.heap.size X w'->(if fG b≠0 then e= .returned (.tuple #[.slice none 0 0,.int .i64 (fG b)])
  else if qR b=true then ∃A cap,e= .returned (.tuple #[.slice A b.steps.length cap,.int .i64 0])∧Rd w' w'.heap.size 2 A b.steps.length (λi j=>.int .i64 (if j=0 then lowAt (p8 b) (b.dz.length+2*i+1) else highAt (p8 b) (b.dz.length+2*i+1)))
  else e= .returned (.tuple #[.slice none 0 0,.int .i64 9]))->RSpanPost w b b.steps.length (λi=>b.dz.length+2*i+1) e w':= λe w' h1 h2=>⟨HX.out.2.trans (h1.mono (by omega)),h2⟩
 have HR:=Lib.hid hR;clear hR;show Calls Lo.prog 21 #[Value.agg (lN b v)] w _;unfold lN;go_enter Lo.get Tryz.func21,Tryz.ntmps21;go_wp2;have hy:=HX.out.1;unfold lN at hy;rw [hy];clear hy;refine (Lo.YR (b:=b) (v:=v) (B:=B) rfl (HA.out X (Below.refl _ _)) (by omega) hs HBC.out).mono ?_
 rintro e w1 ⟨rfl,h1⟩;obtain ⟨f0,f1,f2,f3⟩:=al8 (HC.out w1 h1);obtain ⟨cx,hcx⟩:∃cx,fG b=cx:=⟨_,rfl⟩;rw [hcx]
 by_cases z:cx=0
 case neg=>
  have WV:=Lib.hid (And.intro hcx h1);clear hcx h1;go_wp2
  go_ret2
  refine HR.out _ _ WV.out.2 ?_
  rw [if_pos (by rw [WV.out.1];exact z),WV.out.1];rfl
 subst z;have hg:=lM hs hcx;have hn8:=hg.n8;have ag1:=hg.p12;have hwl:=yR b (-1);rw [if_neg (by omega)] at hwl;have WV:=Lib.hid (And.intro hcx (And.intro h1 (And.intro hg hwl)));clear hcx h1 hg hwl;go_wp2;refine (Lo.rcanb_any (b:=b) (v:=v) (B:=B) rfl (HA.out w1 WV.out.2.1) (by have :=WV.out.2.1.size;omega) hs WV.out.1).mono ?_
 rintro e w2 ⟨rfl,h2⟩;replace h2:=WV.out.2.1.trans (h2.mono WV.out.2.1.size);clear f0 f1 f2 f3;obtain ⟨f0,f1,f2,f3⟩:=al8 (HC.out w2 h2);obtain ⟨hh,hhe⟩:∃hh,qR b=hh:=⟨_,rfl⟩;rw [hhe];cases hh with
 |false=>
  have HX3:=Lib.hid (And.intro hhe h2);clear hhe h2;go_wp2
  go_ret2
  refine HR.out _ _ HX3.out.2 ?_
  rw [if_neg (by rw [WV.out.1];simp),if_neg (by rw [HX3.out.1];simp)];rfl
 |true=>
  have HX3:=Lib.hid (And.intro hhe h2);clear hhe h2;go_wp2;have sz2:X.heap.size<=w2.heap.size:=HX3.out.2.size
  go_loopw [5,6] (λo i wr=>∃k:Nat,k<=b.steps.length∧i= .int .i64 (k:Int)∧wr.ownsRow w2.heap.size 51 2 o k (spanC b (λi=>b.dz.length+2*i+1) k)∧Below w2.heap.size w2 wr) (λ_ i _=>b.steps.length - (intOf i).toNat)
  case atStart=>exact ⟨0,Nat.zero_le _,rfl,World.ownsRow_nil _ _ _ _,Below.refl _ _⟩
  case round=>
   obtain ⟨k,hk,rfl,hown,hbw⟩:=hrel;have hXr:=HX3.out.2.trans (hbw.mono sz2);obtain ⟨f0,f1,f2,f3⟩:=al8 (HC.out wr hXr);have szr:w2.heap.size<=wr.heap.size:=hbw.size;have HW:=Lib.hid (And.intro hown (And.intro hbw hXr));clear hown hbw hXr
   by_cases hlt:k<b.steps.length
   ·have hlt':(k:Int)<(b.steps.length:Int):=by omega
    have hwr:IntKind.i64.wrap ((b.steps.length:Int)+1)=(b.steps.length:Int)+1:=by rw [IntKind.wrap_i64];omega
    obtain ⟨q,hq⟩:∃q:Nat,b.dz.length+2*k+1=q:=⟨_,rfl⟩;have hkl:q<(fA b (-1)).length:=by rw [WV.out.2.2.2];omega
    obtain ⟨lo,hlo⟩:∃lo,lowAt (p8 b) q=lo:=⟨_,rfl⟩;obtain ⟨up,hup⟩:∃up,highAt (p8 b) q=up:=⟨_,rfl⟩;have hsc:spanC b (λi=>b.dz.length+2*i+1) (k+1)=spanC b (λi=>b.dz.length+2*i+1) k++ [.int .i64 lo,.int .i64 up]:=by rw [<-hlo, <-hup, <-hq];rfl
    have HSC:=Lib.hid (And.intro hsc (And.intro hlo hup));clear hsc hlo hup;obtain ⟨za,hza⟩:∃za,2*(k:Int)=za:=⟨_,rfl⟩;obtain ⟨βU,hzb⟩:∃βU,(b.dz.length:Int)+za=βU:=⟨_,rfl⟩;have hw1:IntKind.i64.wrap (2*(k:Int))=za:=by rw [IntKind.wrap_i64];omega
    have hw2:IntKind.i64.wrap ((b.dz.length:Int)+za)=βU:=by rw [IntKind.wrap_i64];omega
    have hw3:IntKind.i64.wrap (βU+1)=(q:Int):=by rw [IntKind.wrap_i64];omega
    clear hza hzb hq;go_wp2
    go_region_law (first
     |(go_simp;go_at_call 46;go_must (
       refine (Lo.rways_rd (b:=b) (v:=v) (B:=B) (hand:= -1) rfl (HA.out _ ?b1) ?b2 hs WV.out.1 (by omega)).mono ?_
       case b1=>exact HW.out.2.2.drew
       case b2=>show B<=wr.heap.size;omega
       rintro e w3 ⟨A,cap,rfl,hr,h3⟩;replace h3:Below wr.heap.size wr w3:=((Below.refl wr.heap.size wr).drew).trans h3;obtain ⟨f0,f1,f2,f3⟩:=al8 (HC.out w3 (HW.out.2.2.trans (h3.mono (by omega))));have s3:wr.heap.size<=w3.heap.size:=h3.size;have H3:=Lib.hid (And.intro h3 hr);clear h3 hr))
     |(go_simp;go_at_call 45;go_must (
       with_reducible refine (Lo.rspan_v WV.out.2.2.1 H3.out.2 (Nat.le_refl _) hkl).mono ?_
       rintro e w4 ⟨rfl,h4⟩;rw [HSC.out.2.1,HSC.out.2.2];have s4:w3.heap.size<=w4.heap.size:=h4.size;have H4:=Lib.hid (And.intro (HW.out.2.1.trans ((H3.out.1.trans (h4.mono s3)).mono szr)) (ownsRow.below (ownsRow.below HW.out.1 H3.out.1) h4));clear h4))
     |(refine step_append_opt rfl (.tmp 22) (.tmp 37) 29 rfl w2.heap.size 51 i0 (.agg #[.int .i64 0,.int .i64 0]) 2 16 Lo.WS hi hz0 hz1 hz2 rfl (by decide) _ k (spanC b (λi=>b.dz.length+2*i+1) k) rfl (H4.out.2.alloc _) (some ⟨_,0,none⟩) 1 1 [.int .i64 lo,.int .i64 up] rfl rfl ?hn (λe=>by cases e) (λu hu=>by simp at hu;rcases hu with rfl|rfl<;>rfl) (by unfold maxLen;omega) (by omega) (by simp;omega) ?_
       case hn=>
        intro ad e;cases e;exact World.news_of_block (t:=51) (fr:=(0,0)) (cs:= #[.int .i64 lo,.int .i64 up]) (World.alloc_heap_new _ _)
       intro v5 w5 a1 a2;have hb5:=Below.grown (H4.out.1.alloc (by omega) _) a2 (by simp;omega) (λj hj=>(H4.out.2.lt j hj).1);have H5:=Lib.hid (And.intro hb5 a1);clear hb5 a1 a2))
    all_goals
     go_wp2;go_roundw
    all_goals first
     |exact ⟨k+1,by omega,by go_num,by rw [HSC.out.1];exact H5.out.2,H5.out.1⟩
     |(simp [intOf];omega)
   ·obtain rfl:k=b.steps.length:=by omega
    obtain ⟨A2,cap2,rfl, -,hr2⟩:=ownsRow.rd (B:=wr.heap.size) HW.out.1 (λi j hi hj=>spanC_get b (λi=>b.dz.length+2*i+1) _ i j hi hj);have HR2:=Lib.hid (hr2 _ (Nat.le_refl _) (Nat.le_refl _));clear hr2;go_wp2
    go_ret2
    refine HR.out _ _ HW.out.2.2 ?_
    rw [if_neg (by rw [WV.out.1];simp),if_pos HX3.out.1];exact ⟨A2,cap2,rfl,HR2.out⟩
end Go.Proofs
end
