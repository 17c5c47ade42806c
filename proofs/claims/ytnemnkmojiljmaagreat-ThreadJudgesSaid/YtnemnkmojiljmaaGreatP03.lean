/- Part 3. -/
import Derived.Test.YtnemnkmojiljmaaGreatP02
import Derived.Test.YtnemnkmojiljmaaGreatP01
import Derived.Test.YtnemnkmojiljmaaGreatH28
set_option maxRecDepth 100000
set_option maxHeartbeats 0
set_option linter.all false
section
namespace Go.Proofs
open Go Go.RowKit Go.Maps
variable [Lo.St]
def RJP (w:World) (b:dO) (lm:Int) (e:Ending) (w':World):Prop:=
 Below w.heap.size w w'∧
 if fG b≠0 then e= .returned (.tuple #[.slice none 0 0,.int .i64 (fG b)])
 else if kH lm 0 1000000=false then e= .returned (.tuple #[.slice none 0 0,.int .i64 1])
 else if qR b=true then ∃A cap,e= .returned (.tuple #[.slice A b.dJ.length cap,.int .i64 0])∧xJ w' w'.heap.size A (zT b lm)
 else e= .returned (.tuple #[.slice none 0 0,.int .i64 9])
theorem Lo.rspan_h {w:World} {B:Nat} {b:dO} {A:Option Addr} {cap h q:Nat} (hg:b.good) (hr:RdW w B A (fA b h)) (hB:B<=w.heap.size) (hl:(fA b h).length=q+1):
 Calls Lo.prog 45 #[.slice A (q+1) cap,.int .i64 ((b.steps.length:Int)+2),.int .i64 (q:Int)] w λe w'=>e= .returned (.agg #[.int .i64 (lO9 (zS b h) q),.int .i64 (hI9 (zS b h) q)])∧Below w.heap.size w w':=by
 have h1:=Lo.rspan_any (cap:=cap) (nd:=dZ b h) (k:=q) hr (MN b h hg) (MR b h hg) hB (Dh b h hg) (by omega)
 rwa [hl,show ((dZ b h:Nat):Int)=(b.steps.length:Int)+2 from by rw [show dZ b h=b.steps.length+2 from by unfold dZ;rw [if_pos (by omega)]];omega] at h1
theorem one_of {a:Int}:∀u∈ [Value.int .i64 a],u.oneCell'=true:= λu hu=>by
 simp at hu;subst hu;rfl
theorem Lo.rjudge_any {w:World} {B:Nat} {b:dO} {v:gJ} {x:Value} (hx:x=dY b v) (hb:fC w B b v) (hB:B<=w.heap.size) (hs:b.small) (hbc:GG b v) (lm:Int):
 Calls Lo.prog 23 #[x,.int .i64 lm] w (RJP w b lm):=by
 obtain ⟨U,U2,U3,U4,U5,U6⟩:=Lo.facts;have C:=Lo.call Tryz.func18;have C2:=Lo.call Tryz.func44;have C3:=Lo.call Tryz.func46;have C4:=Lo.call Tryz.func45;have C5:=Lo.call Tryz.func54;obtain ⟨i0,hi,hz0,hz1,hz2⟩:=info_parts Lo.YI;subst hx;obtain ⟨X,hX,sX,bX,hA,hC⟩:=book_box hb hB;have HC:=Lib.hid hC;have HA:=Lib.hid hA;have HX:=Lib.hid (And.intro hX bX);have HBC:=Lib.hid hbc;clear hX bX hA hC hb hbc;obtain ⟨f0,f1,f2,f3⟩:=al8 (HC.out X (Below.refl _ _));show Calls Lo.prog 23 #[Value.agg (lN b v),.int .i64 lm] w _;unfold lN;go_enter Lo.get Tryz.func23,Tryz.ntmps23;go_wp2;have hy:=HX.out.1;unfold lN at hy;rw [hy];clear hy;refine (Lo.YR (b:=b) (v:=v) (B:=B) rfl (HA.out X (Below.refl _ _)) (by omega) hs HBC.out).mono ?_
 rintro e w1 ⟨rfl,h1⟩;obtain ⟨f0,f1,f2,f3⟩:=al8 (HC.out w1 h1);obtain ⟨cx,hcx⟩:∃cx,fG b=cx:=⟨_,rfl⟩;rw [hcx]
 by_cases z:cx=0
 case neg=>
  have z2:(cx==0)=false:=by simpa using z
  have WV:=Lib.hid (And.intro hcx h1);clear hcx h1;go_wp2
  go_ret2
  refine ⟨HX.out.2.trans (WV.out.2.mono (by omega)),?_⟩;rw [if_pos (by rw [WV.out.1];exact z),WV.out.1];rfl
 subst z;have hg:=lM hs hcx;have hn8:=hg.n8;have hh4:b.dJ.length<=4:=tY (EP hcx).1;have WV:=Lib.hid (And.intro hcx (And.intro h1 hg));clear hcx h1 hg;go_wp2;refine (Lo.vF _ _ _ _).mono ?_
 rintro e w1' ⟨rfl,rfl⟩;cases hbt:kH lm 0 1000000 with
 |false=>
  have HB:=Lib.hid hbt;clear hbt;go_wp2
  go_ret2
  refine ⟨HX.out.2.trans (WV.out.2.1.mono (by omega)),?_⟩;rw [if_neg (by rw [WV.out.1];simp),if_pos HB.out];rfl
 |true=>
  have HB:=Lib.hid hbt;clear hbt;go_wp2;refine (Lo.rcanb_any (b:=b) (v:=v) (B:=B) rfl (HA.out _ WV.out.2.1) (by have :=WV.out.2.1.size;omega) hs WV.out.1).mono ?_
  rintro e w2 ⟨rfl,h2⟩;replace h2:=WV.out.2.1.trans (h2.mono WV.out.2.1.size);clear f0 f1 f2 f3;obtain ⟨f0,f1,f2,f3⟩:=al8 (HC.out w2 h2);obtain ⟨hh,hhe⟩:∃hh,qR b=hh:=⟨_,rfl⟩;rw [hhe];cases hh with
  |false=>
   have HX3:=Lib.hid (And.intro hhe h2);clear hhe h2;go_wp2
   go_ret2
   refine ⟨HX.out.2.trans (HX3.out.2.mono (by omega)),?_⟩;rw [if_neg (by rw [WV.out.1];simp),if_neg (by rw [HB.out];simp),if_neg (by rw [HX3.out.1];simp)];rfl
  |true=>
   have HX3:=Lib.hid (And.intro hhe h2);clear hhe h2;go_wp2;have sz2:X.heap.size<=w2.heap.size:=HX3.out.2.size
   go_loopw [7,8] (λo i wr=>∃k:Nat,k<=b.dJ.length∧i= .int .i64 (k:Int)∧wr.ownsRow w2.heap.size 38 1 o k (gW (oG b lm k))∧Below w2.heap.size w2 wr) (λ_ i _=>b.dJ.length - (intOf i).toNat)
   case atStart=>exact ⟨0,Nat.zero_le _,rfl,World.ownsRow_nil _ _ _ _,Below.refl _ _⟩
   case round=>
    obtain ⟨k,hk,rfl,hown,hbw⟩:=hrel;have hXr:=HX3.out.2.trans (hbw.mono sz2);obtain ⟨f0,f1,f2,f3⟩:=al8 (HC.out wr hXr);have szr:w2.heap.size<=wr.heap.size:=hbw.size;have HW:=Lib.hid (And.intro hown (And.intro hbw hXr));clear hown hbw hXr
    by_cases hlt:k<b.dJ.length
    ·have hlt':(k:Int)<(b.dJ.length:Int):=by omega
     have hlen:=yR b (k:Int);rw [if_pos (by omega)] at hlen;obtain ⟨q,hq⟩:∃q:Nat,b.dz.length+2*b.steps.length=q:=⟨_,rfl⟩;rw [hq] at hlen;have ag1:=WV.out.2.2.p12;have hwr:IntKind.i64.wrap ((b.steps.length:Int)+2)=(b.steps.length:Int)+2:=by rw [IntKind.wrap_i64];omega
     have hwr2:wrap64 (q:Int)=(q:Int):=by first |(unfold wrap64;omega)|(show IntKind.i64.wrap (q:Int)=_;rw [IntKind.wrap_i64];omega)
     have hjt:oG b lm (k+1)=oG b lm k++ [nU (lO9 (zS b k) q) (hI9 (zS b k) q) lm]:=by rw [<-hq];rfl
     have HL:=Lib.hid (And.intro hlen hjt);clear hlen hq hjt;go_wp2;refine (Lo.rways_rd (b:=b) (v:=v) (B:=B) (hand:=(k:Int)) rfl (HA.out _ HW.out.2.2) (by omega) hs WV.out.1 (by omega)).mono ?_
     rintro e w3 ⟨A,cap,rfl,hr,h3⟩;obtain ⟨f0,f1,f2,f3⟩:=al8 (HC.out w3 (HW.out.2.2.trans (h3.mono (by omega))));have s3:wr.heap.size<=w3.heap.size:=h3.size;have H3:=Lib.hid (And.intro h3 hr);rw [HL.out.1];clear h3 hr;go_wp2;refine (Lo.rspan_h (cap:=cap) WV.out.2.2 H3.out.2 (Nat.le_refl _) HL.out.1).mono ?_
     rintro e w4 ⟨rfl,h4⟩;obtain ⟨lo,hlo⟩:∃lo,lO9 (zS b k) q=lo:=⟨_,rfl⟩;obtain ⟨up,hup⟩:∃up,hI9 (zS b k) q=up:=⟨_,rfl⟩;rw [hlo,hup];rw [hlo,hup] at HL;have hb4:=HW.out.2.1.trans ((H3.out.1.trans (h4.mono s3)).mono szr);have H4:=Lib.hid (And.intro hb4 (And.intro (ownsRow.below (ownsRow.below HW.out.1 H3.out.1) h4) trivial));have s4:=hb4.size;have hbe:oG b lm (k+1)=oG b lm k++ [nU lo up lm]:=HL.out.2
     have hnw:∀o,((w4.alloc (.cells #[.int .i64 lo,.int .i64 up] 51)).alloc o).heap[w4.heap.size+1]?=some o:= λo=>by
      have h:=World.alloc_heap_new (w4.alloc (.cells #[.int .i64 lo,.int .i64 up] 51)) o
      rwa [World.size_alloc] at h
     have HNW:=Lib.hid hnw;clear h4 hlo hup hb4 f0 f1 f2 f3 hnw;unfold nU at hbe
     by_cases q1:lm<lo
     ·rw [if_pos q1] at hbe;have I8:=Lib.hid hbe;clear hbe
      go_wp2_with (at_builtin;refine wpList_append_own _ rfl _ _ 35 rfl w2.heap.size 38 i0 (.int .i64 0) 1 8 Lo.R3 hi hz0 hz1 hz2 rfl (by decide) _ k (gW (oG b lm k)) rfl ((H4.out.2.1.alloc _).alloc _) ⟨w4.heap.size+1,0,none⟩ 1 1 [.int .i64 1] rfl rfl (World.news_of_block (t:=38) (fr:=(0,0)) (cs:= #[.int .i64 1]) (HNW.out _)) one_of (by unfold maxLen;omega) (by omega) (by simp;omega) ?_)
      intro v5 w5 a1 a2 _;have hb5:=Below.grown ((H4.out.1.alloc s4 _).alloc (by simp;omega) _) a2 (by simp;omega) (λj hj=>(H4.out.2.1.lt j hj).1);have H5:=Lib.hid (And.intro hb5 a1);clear hb5 a1 a2;go_wp2;go_roundw
      case rel=>exact ⟨k+1,by omega,by go_num,by rw [I8.out];unfold gW;rw [List.map_append];exact H5.out.2,H5.out.1⟩
      case measure=>simp [intOf];omega
     rw [if_neg q1] at hbe
     by_cases q2:up<=lm
     ·rw [if_pos q2] at hbe;have I8:=Lib.hid hbe;clear hbe
      go_wp2_with (at_builtin;refine wpList_append_own _ rfl _ _ 35 rfl w2.heap.size 38 i0 (.int .i64 0) 1 8 Lo.R3 hi hz0 hz1 hz2 rfl (by decide) _ k (gW (oG b lm k)) rfl ((H4.out.2.1.alloc _).alloc _) ⟨w4.heap.size+1,0,none⟩ 1 1 [.int .i64 2] rfl rfl (World.news_of_block (t:=38) (fr:=(0,0)) (cs:= #[.int .i64 2]) (HNW.out _)) one_of (by unfold maxLen;omega) (by omega) (by simp;omega) ?_)
      intro v5 w5 a1 a2 _;have hb5:=Below.grown ((H4.out.1.alloc s4 _).alloc (by simp;omega) _) a2 (by simp;omega) (λj hj=>(H4.out.2.1.lt j hj).1);have H5:=Lib.hid (And.intro hb5 a1);clear hb5 a1 a2;go_wp2;go_roundw
      case rel=>exact ⟨k+1,by omega,by go_num,by rw [I8.out];unfold gW;rw [List.map_append];exact H5.out.2,H5.out.1⟩
      case measure=>simp [intOf];omega
     ·rw [if_neg q2] at hbe;have I8:=Lib.hid hbe;clear hbe
      go_wp2_with (at_builtin;refine wpList_append_own _ rfl _ _ 35 rfl w2.heap.size 38 i0 (.int .i64 0) 1 8 Lo.R3 hi hz0 hz1 hz2 rfl (by decide) _ k (gW (oG b lm k)) rfl ((H4.out.2.1.alloc _).alloc _) ⟨w4.heap.size+1,0,none⟩ 1 1 [.int .i64 0] rfl rfl (World.news_of_block (t:=38) (fr:=(0,0)) (cs:= #[.int .i64 0]) (HNW.out _)) one_of (by unfold maxLen;omega) (by omega) (by simp;omega) ?_)
      intro v5 w5 a1 a2 _;have hb5:=Below.grown ((H4.out.1.alloc s4 _).alloc (by simp;omega) _) a2 (by simp;omega) (λj hj=>(H4.out.2.1.lt j hj).1);have H5:=Lib.hid (And.intro hb5 a1);clear hb5 a1 a2;go_wp2;go_roundw
      case rel=>exact ⟨k+1,by omega,by go_num,by rw [I8.out];unfold gW;rw [List.map_append];exact H5.out.2,H5.out.1⟩
      case measure=>simp [intOf];omega
    ·obtain rfl:k=b.dJ.length:=by omega
     obtain ⟨A2,cap2,rfl, -,hr2⟩:=ownsRow.rd (B:=wr.heap.size) (f:= λi _=>.int .i64 (((zT b lm)[i]?).getD 0)) HW.out.1 (λi j hi hj=>by
      obtain rfl:j=0:=by omega
      rw [Nat.mul_one,Nat.add_zero];exact sW _ (by rw [uV];exact hi))
     have HR2:=Lib.hid (hr2 _ (Nat.le_refl _) (Nat.le_refl _));clear hr2;go_wp2
     go_ret2
     refine ⟨HX.out.2.trans (HW.out.2.2.mono (by omega)),?_⟩;rw [if_neg (by rw [WV.out.1];simp),if_neg (by rw [HB.out];simp),if_pos HX3.out.1];refine ⟨A2,cap2,rfl,?_⟩;show Rd _ _ 1 A2 (zT b lm).length _;rw [show (zT b lm).length=b.dJ.length from uV b lm _];exact HR2.out
end Go.Proofs
end
section
namespace Go.Proofs
open Go Go.RowKit Go.Maps
theorem scalesF_take' {np:Nat}:∀{l:List jD} (k:Nat),ku np l=0->ku np (l.take k)=0
 | [],k,_=>by rw [List.take_nil];rfl
 |s::r,0,_=>rfl
 |s::r,k+1,h=>by
  rw [List.take_succ_cons];unfold ku at h ⊢
  by_cases h1:kH s.pile 0 ((np:Int) - 1)=false
  ·rw [if_pos h1] at h;cases h
  rw [if_neg h1] at h ⊢
  by_cases h2:eT s.lo s.hi 0 1000000=false
  ·rw [if_pos h2] at h;cases h
  rw [if_neg h2] at h ⊢;exact scalesF_take' k h
variable [Lo.St]
theorem checkF_cut' {b:dO} (h:fG b=0) (k:Nat):fG (Be b k)=0:=by
 obtain ⟨h1,h2,h3,h4,h5⟩:=EP h;unfold fG;rw [if_neg (by show ¬dP b.dJ 4≠0;rw [h1];simp),if_neg (by show ¬dP b.dz 12≠0;rw [h2];simp),if_neg (by show ¬fB b≠0;rw [h3];simp)];rw [if_neg (by show ¬10<(b.dA.take k).length;rw [List.length_take];omega)];exact scalesF_take' k h5
theorem Lo.rfirst_any {w:World} {B:Nat} {b:dO} {v:gJ} {x:Value} (hx:x=dY b v) (hb:fC w B b v) (hB:B<=w.heap.size) (hs:b.small) (hbc:GG b v):
 Calls Lo.prog 25 #[x] w (nC w b):=by
 obtain ⟨U,U2,U3,U4,U5,U6⟩:=Lo.facts;have C:=Lo.call Tryz.func18;have C2:=Lo.call Tryz.func44;subst hx;obtain ⟨X,hX,sX,bX,hA,hC⟩:=book_box hb hB;have HC:=Lib.hid hC;have HA:=Lib.hid hA;have HX:=Lib.hid (And.intro hX bX);have HBC:=Lib.hid hbc;have hlc:b.dA.length<=v.cc:=hb.lc;have hsc:=hs.dA;clear hX bX hA hC hb hbc;obtain ⟨f0,f1,f2,f3⟩:=al8 (HC.out X (Below.refl _ _));show Calls Lo.prog 25 #[Value.agg (lN b v)] w _;unfold lN;go_enter Lo.get Tryz.func25,Tryz.ntmps25;go_wp2;have hy:=HX.out.1;unfold lN at hy;rw [hy];clear hy;refine (Lo.YR (b:=b) (v:=v) (B:=B) rfl (HA.out X (Below.refl _ _)) (by omega) hs HBC.out).mono ?_
 rintro e w1 ⟨rfl,h1⟩;obtain ⟨f0,f1,f2,f3⟩:=al8 (HC.out w1 h1);obtain ⟨cx,hcx⟩:∃cx,fG b=cx:=⟨_,rfl⟩;rw [hcx]
 by_cases z:cx=0
 case neg=>
  have WV:=Lib.hid (And.intro hcx h1);clear hcx h1;go_wp2
  go_ret2
  refine ⟨HX.out.2.trans (WV.out.2.mono (by omega)),?_⟩;rw [if_pos (by rw [WV.out.1];exact z),WV.out.1];rfl
 subst z;have s1:X.heap.size<=w1.heap.size:=h1.size;have WV:=Lib.hid (And.intro hcx h1);clear hcx h1;go_wp2;obtain ⟨Y,hY⟩:∃Y,w1.alloc (.cells #[.slice v.ah b.dJ.length v.ch,.slice v.ap b.dz.length v.cp,.slice v.iT b.steps.length v.cs,.slice v.ac b.dA.length v.cc] 26)=Y:=⟨_,rfl⟩;have y0:Y.heap[w1.heap.size]?=some (.cells #[.slice v.ah b.dJ.length v.ch,.slice v.ap b.dz.length v.cp,.slice v.iT b.steps.length v.cs,.slice v.ac b.dA.length v.cc] 26):=hY ▸ World.alloc_heap_new _ _
 have bY:Below w1.heap.size w1 Y:=hY ▸ (Below.refl _ _).alloc (Nat.le_refl _) _;have sY:Y.heap.size=w1.heap.size+1:=by rw [<-hY];simp
 rw [hY];have HY:=Lib.hid (And.intro y0 bY);clear hY y0 bY f0 f1 f2 f3
 go_loopw [6] (λi wr=>∃k:Nat,∃x,k<=b.dA.length+1∧i= .int .i64 (k:Int)∧wr.heap[w1.heap.size]?=some (.cells #[.slice v.ah b.dJ.length v.ch,.slice v.ap b.dz.length v.cp,.slice v.iT b.steps.length v.cs,x] 26)∧Below w1.heap.size w1 wr∧w1.heap.size+1<=wr.heap.size∧rV b (b.dA.length+1 - k) k=Gv b) (λi _=>b.dA.length+1 - (intOf i).toNat)
 case atStart=>exact ⟨0,_,Nat.zero_le _,rfl,HY.out.1,HY.out.2,by omega,rfl⟩
 case round=>
  obtain ⟨k,x,hk,rfl,hbx,hbw,hsz,wK⟩:=hrel;have hXr:=WV.out.2.trans (hbw.mono s1);obtain ⟨f0,f1,f2,f3⟩:=al8 (HC.out wr hXr)
  by_cases hlt:k<b.dA.length+1
  ·have hkn:k<=b.dA.length:=by omega
   have hlt':(k:Int)<=(b.dA.length:Int):=by omega
   have hkc:k<=v.cc:=by omega
   have hd:rV b (b.dA.length+1 - k) k=if qR (Be b k)=false then (k:Int) - 1 else rV b (b.dA.length+1 - (k+1)) (k+1):=by
    rw [show b.dA.length+1 - k=(b.dA.length - k)+1 from by omega,show b.dA.length+1 - (k+1)=b.dA.length - k from by omega];rfl
   rw [wK] at hd;obtain ⟨e0,e1,e2,e3,ef⟩:=Vo hbx;have nE:=O1 (u':=.slice v.ac k v.cc) hbx;have hset4:=Vo nE;obtain ⟨g0,g1,g2,g3, -⟩:=hset4;obtain ⟨V,hV⟩:∃V,wr.setCell ⟨w1.heap.size,3,none⟩ (.slice v.ac k v.cc)=V:=⟨_,rfl⟩;have bV:Below w1.heap.size w1 V:=hV ▸ hbw.setCell (p:=⟨w1.heap.size,3,none⟩) (Nat.le_refl _) _;have μX:V.heap.size=wr.heap.size:=by rw [<-hV];simp [World.setCell]
   rw [hV] at nE g0 g1 g2 g3;have hXV:=WV.out.2.trans (bV.mono s1)
   have hbv:Value.agg #[.slice v.ah b.dJ.length v.ch,.slice v.ap b.dz.length v.cp,.slice v.iT b.steps.length v.cs,.slice v.ac k v.cc]=dY (Be b k) v:=by
    unfold dY Be;rw [List.length_take,Nat.min_eq_left hkn]
   have hsk:(Be b k).small:=⟨hs.dJ,hs.dz,hs.steps,by show (b.dA.take k).length<=64;rw [List.length_take];omega,hs.ins,hs.outs⟩;have hcall:=Lo.rcanb_any (b:=Be b k) (v:=v) (B:=B) hbv (YK (HA.out V hXV) k hkn) (by have :=hXV.size;omega) hsk (checkF_cut' WV.out.1 k);have HV:=Lib.hid hV;have HB:=Lib.hid (And.intro bV (And.intro nE (And.intro hd hcall)));clear hV bV nE hd hcall hbv wK hbx hbw hXr hXV;cases hho:qR (Be b k) with
   |false=>
    have HH:=Lib.hid hho;clear hho
    go_wp2_with (go_at_call 44;rw [HV.out];refine HB.out.2.2.2.mono ?_;rintro e w3 ⟨rfl,h3⟩;rw [HH.out])
    go_ret2
    refine ⟨HX.out.2.trans ((WV.out.2.trans ((HB.out.1.trans (h3.mono (by omega))).mono s1)).mono (by omega)),?_⟩;rw [if_neg (by rw [WV.out.1];simp)];have :=HB.out.2.2.1;rw [if_pos HH.out] at this;rw [this];rfl
   |true=>
    have HH:=Lib.hid hho;clear hho
    go_wp2_with (go_at_call 44;rw [HV.out];refine HB.out.2.2.2.mono ?_;rintro e w3 ⟨rfl,h3⟩;rw [HH.out])
    go_roundw
    case rel=>exact ⟨k+1,_,by omega,by go_num,(h3.block _ (by omega)).trans HB.out.2.1,HB.out.1.trans (h3.mono (by omega)),by have :=h3.size;omega,by
     have :=HB.out.2.2.1;rw [if_neg (by rw [HH.out];simp)] at this;exact this.symm⟩
    case measure=>simp [intOf];omega
  ·obtain rfl:k=b.dA.length+1:=by omega
   have hnl:¬((b.dA.length+1:Nat):Int)<=(b.dA.length:Int):=by omega
   have hnl2:¬(b.dA.length:Int)+1<=(b.dA.length:Int):=by omega
   rw [Nat.sub_self] at wK;have HB:=Lib.hid (And.intro hbw (And.intro wK hXr));clear hbw wK hbx hXr;go_wp2
   go_ret2
   refine ⟨HX.out.2.trans (HB.out.2.2.mono (by omega)),?_⟩;rw [if_neg (by rw [WV.out.1];simp), <-HB.out.2.1];rfl
end Go.Proofs
end
section
namespace Go.Proofs
open Go Go.RowKit
variable [Lo.St]
structure Ends (ss:List eX) (m:Nat) (x:eX) (l h:Int):Prop where
 l0:x.lo<=l
 h0:h<=x.hi
 l1:∀s,s<m->kJ s x.fr x.to=1->gM ss s+x.hi<=l
 h1:∀s,s<m->kJ s x.fr x.to=2->h<=x.lo - gM ss s
 l2:l=x.lo∨∃s,s<m∧kJ s x.fr x.to=1∧l=gM ss s+x.hi
 h2:h=x.hi∨∃s,s<m∧kJ s x.fr x.to=2∧h=x.lo - gM ss s
def sumC (s:Nat):List eX->Int
 | []=>0
 |x::l=>OJ s 0 x+sumC s l
theorem sumC_cons (s:Nat) (x:eX) (l:List eX):sumC s (x::l)=OJ s 0 x+sumC s l:=rfl
theorem short_sum (ss:List eX) (s:Nat):gM ss s=sumC s ss:=by
 have :∀(l:List eX) (n:Int),l.foldl (OJ s) n=n+sumC s l:=by
  intro l
  induction l with
  |nil=>intro n;simp [sumC]
  |cons x l ih=>intro n;rw [List.foldl_cons,ih,sh1_add];show _=n+(OJ s 0 x+sumC s l);omega
 have h:=this ss 0;unfold gM;omega
theorem holds_parts {ss:List eX} {nd:Nat} (h:gN ss nd=true):(∀x∈ss,x.lo<=x.hi)∧∀s,s<2 ^ nd->gM ss s<=0:=by
 unfold gN iQ sV at h;rw [Bool.and_eq_true,Bool.not_eq_true',List.any_eq_false,List.all_eq_true] at h;exact ⟨λx hx=>by have :=h.1 x hx;simp at this;omega, λs hs=>by have :=h.2 s (List.mem_range.2 hs);simpa using this⟩
theorem holds_mk {ss:List eX} {nd:Nat} (h:∀x∈ss,x.lo<=x.hi) (h2:∀s,s<2 ^ nd->gM ss s<=0):gN ss nd=true:=by
 unfold gN iQ sV;rw [Bool.and_eq_true,Bool.not_eq_true',List.any_eq_false,List.all_eq_true];exact ⟨λx hx=>by have :=h x hx;simp;omega, λs hs=>by have :=h2 s (List.mem_range.1 hs);simpa using this⟩
end Go.Proofs
end
section
namespace Go.Proofs
open Go Go.RowKit
variable [Lo.St]
theorem sumC_append (s:Nat):∀l r:List eX,sumC s (l++r)=sumC s l+sumC s r
 | [],r=>by simp [sumC]
 |x::l,r=>by rw [List.cons_append,sumC_cons,sumC_cons,sumC_append s l r];omega
theorem sumC_same {s t:Nat}:∀{l:List eX},(∀x∈l,bit s x.fr=bit t x.fr∧bit s x.to=bit t x.to)->sumC s l=sumC t l
 | [],_=>rfl
 |x::l,h=>by
  have h1:=h x List.mem_cons_self;rw [sumC_cons,sumC_cons,sumC_same λy hy=>h y (List.mem_cons_of_mem _ hy)];unfold OJ kJ;rw [h1.1,h1.2]
theorem bit_cut (s n i:Nat) (h:i<n):bit (s%2 ^ n) i=bit s i:=by
 have e:∀n:Nat,bit n i=(n.testBit i).toNat:= λn=>by
  unfold bit;rw [Nat.testBit_eq_decide_div_mod_eq]
  have :n / 2 ^ i%2<2:=Nat.mod_lt _ (by decide)
  by_cases e:n / 2 ^ i%2=1<;>simp [e]<;>omega
 rw [e,e,Nat.testBit_mod_two_pow];simp [h]
def slack (s n:Nat):Int:=if bit s (n+1)=0∧bit s n=1 then 1000000 else 0
theorem steps_less {b:dO} (hg:b.good) (h:Nat) (hn:∀s∈b.steps,0<=s.hand) (s:Nat):∀k,k<=b.steps.length->sumC s (fq b h k)<=sumC (s%2 ^ (b.steps.length+1)) (fq b (-1) k)+k*slack s b.steps.length
 |0,_=>by unfold fq sumC;simp
 |k+1,hk=>by
  have ih:=steps_less hg h hn s k (by omega);have hm:=List.getElem_mem (show k<b.steps.length by omega);obtain ⟨a1,a2,a3,a4,a5,a6,a7,a8⟩:=hg.st _ hm;have h0:=hn _ hm;unfold fq;rw [List.getElem?_eq_getElem (show k<b.steps.length by omega)];dsimp only;rw [sumC_append,sumC_append];unfold nT;rw [sumC_cons,sumC_cons,sumC_cons,sumC_cons];rw [show sumC s []=0 from rfl,show sumC (s%2 ^ (b.steps.length+1)) []=0 from rfl];rw [if_neg (show ¬b.steps[k].hand= -1 by omega)];have e1:=bit_cut s (b.steps.length+1) k (by omega);have e2:=bit_cut s (b.steps.length+1) b.steps.length (by omega);have e3:=KG s k;have e4:=KG s b.steps.length;have e5:=KG s (b.steps.length+1);unfold OJ kJ slack at *;dsimp only;rw [e1,e2];have ec:((k+1:Nat):Int)=(k:Int)+1:=by omega
  rw [ec,Int.add_mul,Int.one_mul]
  by_cases q:b.steps[k].hand=(h:Int)
  ·rw [if_pos q];generalize (k:Int)*_=z at *;generalize bit s k=u at *;generalize bit s b.steps.length=v at *;generalize bit s (b.steps.length+1)=t at *;rcases (by omega:u=0∨u=1) with rfl|rfl<;>rcases (by omega:v=0∨v=1) with rfl|rfl<;>rcases (by omega:t=0∨t=1) with rfl|rfl<;>simp <;>omega
  ·rw [if_neg q];generalize (k:Int)*_=z at *;generalize bit s k=u at *;generalize bit s b.steps.length=v at *;generalize bit s (b.steps.length+1)=t at *;rcases (by omega:u=0∨u=1) with rfl|rfl<;>rcases (by omega:v=0∨v=1) with rfl|rfl<;>rcases (by omega:t=0∨t=1) with rfl|rfl<;>simp <;>omega
theorem nodes_m1 (b:dO):dZ b (-1)=b.steps.length+1:=rfl
theorem nodes_h (b:dO) (h:Nat):dZ b h=b.steps.length+2:=by unfold dZ;rw [if_pos (by omega)]
theorem stepsTo_mem_lo (b:dO) (hand hand':Int) (h:∀x∈fq b hand b.steps.length,x.lo<=x.hi):∀k,k<=b.steps.length->∀x∈fq b hand' k,x.lo<=x.hi:=by
 have :∀k,k<=b.steps.length->((∀x∈fq b hand k,x.lo<=x.hi)->∀x∈fq b hand' k,x.lo<=x.hi):=by
  intro k
  induction k with
  |zero=>intro _ _ x hx;simp [fq] at hx
  |succ k ih=>
   intro hk h x hx;unfold fq at h hx;rw [List.getElem?_eq_getElem (show k<b.steps.length by omega)] at h hx;rcases List.mem_append.1 hx with hx|hx
   ·exact ih (by omega) (λy hy=>h y (List.mem_append_left _ hy)) x hx
   ·have h1:=h ⟨b.steps[k].g0,b.steps[k].g1,b.steps.length,k⟩ (List.mem_append_right _ (by simp [nT]));have h2:=h ⟨b.steps[k].l0,b.steps[k].l1,k,if b.steps[k].hand=hand then b.steps.length+1 else b.steps.length⟩ (List.mem_append_right _ (by simp [nT]));simp only [nT,List.mem_cons,List.not_mem_nil,or_false] at hx;rcases hx with rfl|rfl
    ·exact h1
    ·exact h2
 have a:=this b.steps.length (Nat.le_refl _) h;intro k hk
 have mono:∀d k,k+d=b.steps.length->∀x∈fq b hand' k,x∈fq b hand' b.steps.length:=by
  intro d
  induction d with
  |zero=>intro k e x hx;rw [Nat.add_zero] at e;rwa [<-e]
  |succ d ih=>intro k e x hx;exact ih (k+1) (by omega) x (by unfold fq;exact List.mem_append_left _ hx)
 exact λx hx=>a x (mono (b.steps.length - k) k (by omega) x hx)
theorem hands_hold {b:dO} (hs:b.small) (hc:fG b=0) (hh:qR b=true) (h:Nat):gN (fA b h) (dZ b h)=true:=by
 have hg:=lM hs hc
 have hn:∀s∈b.steps,0<=s.hand:= λs hm=>by
  have :=(vE (CX (EP hc).2.2.1).2.1 s hm).1;unfold kH at this;simp at this;omega
 obtain ⟨h1,h2⟩:=holds_parts hh;rw [nodes_m1] at h2;rw [nodes_h];have wb:fA b (-1)=eG b b.dz.length++fq b (-1) b.steps.length:=by unfold fA;rw [if_neg (by decide),List.append_nil]
 have ψv:fA b h=eG b b.dz.length++fq b h b.steps.length++ [⟨0,8000000,b.steps.length+1,b.steps.length⟩]:=by unfold fA;rw [if_pos (by omega)]
 rw [wb] at h1 h2;rw [ψv];refine holds_mk (λx hx=>?_) λs hs=>?_
 ·rcases List.mem_append.1 hx with hx|hx
  ·rcases List.mem_append.1 hx with hx|hx
   ·exact h1 x (List.mem_append_left _ hx)
   ·exact stepsTo_mem_lo b (-1) h (λy hy=>h1 y (List.mem_append_right _ hy)) _ (Nat.le_refl _) x hx
  ·simp at hx;subst hx;show (0:Int)<=8000000;decide
 ·have h3:=h2 (s%2 ^ (b.steps.length+1)) (Nat.mod_lt _ (Nat.pow_pos (by decide)));have h4:=steps_less hg h hn s b.steps.length (Nat.le_refl _);rw [short_sum] at h3 ⊢;rw [sumC_append] at h3 ⊢;rw [sumC_append]
  have h5:sumC s (eG b b.dz.length)=sumC (s%2 ^ (b.steps.length+1)) (eG b b.dz.length):=sumC_same λx hx=>by
   obtain ⟨p,_,rfl⟩:=List.mem_map.1 hx;have m:=MM b.steps p;have u:=RF b.steps p;exact ⟨(bit_cut s _ _ (show (tq b.steps p).toNat<_ by omega)).symm,(bit_cut s _ _ (show ((qO b.steps p).getD b.steps.length).toNat<_ by omega)).symm⟩
  rw [h5];have h8:=hg.n8;have e4:=KG s b.steps.length;have e5:=KG s (b.steps.length+1);unfold slack at h4;show _+(OJ s 0 ⟨0,8000000,b.steps.length+1,b.steps.length⟩+0)<=0;unfold OJ kJ;dsimp only;generalize bit s b.steps.length=v at *;generalize bit s (b.steps.length+1)=t at *;rcases (by omega:v=0∨v=1) with rfl|rfl<;>rcases (by omega:t=0∨t=1) with rfl|rfl<;>simp at h4 ⊢ <;>omega
end Go.Proofs
end
section
namespace Go.Proofs
open Go Go.RowKit Go.Maps
variable [Lo.St]
theorem rdI_below {w w':World} {A:Option Addr} {l:List Int} (h:xJ w w.heap.size A l) (hb:Below w.heap.size w w'):xJ w' w'.heap.size A l:= λhn=>by
 obtain ⟨b,off,e,h1,h2⟩:=h hn;exact ⟨b,off,e,Nat.lt_of_lt_of_le h1 hb.size, λi j hi hj=>(dH hb _ _ h1).trans (h2 i j hi hj)⟩
def χt (b:dO) (lm:Int):List Int:=if fG b=0∧kH lm 0 1000000=true∧qR b=true then zT b lm else []
def ρn (b:dO) (lm:Int):Int:=if fG b≠0 then fG b else if kH lm 0 1000000=false then 1 else if qR b=true then 0 else 9
theorem jL_len {b:dO} (hs:b.small) (lm:Int):(χt b lm).length<=64:=by
 unfold χt;split
 ·rw [uV];exact hs.dJ
 ·exact Nat.zero_le _
def φF (w:World) (b:dO) (lm:Int) (e:Ending) (w':World):Prop:=
 Below w.heap.size w w'∧∃A c,e= .returned (.tuple #[.slice A (χt b lm).length c,.int .i64 (ρn b lm)])∧xJ w' w'.heap.size A (χt b lm)
theorem jU_of {w w':World} {b:dO} {lm:Int} {e:Ending} (h:RJP w b lm e w'):φF w b lm e w':=by
 obtain ⟨h1,h⟩:=h;refine ⟨h1,?_⟩;have nil:∀A,xJ w' w'.heap.size A []:= λA h=>absurd h (Nat.lt_irrefl _)
 by_cases hc:fG b=0
 ·rw [if_neg (by rw [hc];simp)] at h
  by_cases hl:kH lm 0 1000000=false
  ·rw [if_pos hl] at h;rw [show χt b lm= [] from if_neg (λq=>by rw [hl] at q;exact absurd q.2.1 (by simp)),show ρn b lm=1 from (if_neg (λq=>q hc)).trans (if_pos hl)];exact ⟨none,0,h,nil _⟩
  ·rw [if_neg hl] at h
   by_cases hh:qR b=true
   ·rw [if_pos hh] at h;rw [show χt b lm=zT b lm from if_pos ⟨hc,by simpa using hl,hh⟩,show ρn b lm=0 from (if_neg (λq=>q hc)).trans ((if_neg hl).trans (if_pos hh)),show (zT b lm).length=b.dJ.length from uV _ _ _];exact h
   ·rw [if_neg hh] at h;rw [show χt b lm= [] from if_neg (λq=>hh q.2.2),show ρn b lm=9 from (if_neg (λq=>q hc)).trans ((if_neg hl).trans (if_neg hh))];exact ⟨none,0,h,nil _⟩
 ·rw [if_pos hc] at h;rw [show χt b lm= [] from if_neg (λq=>hc q.1),show ρn b lm=fG b from if_pos hc];exact ⟨none,0,h,nil _⟩
theorem Lo.judge_u {w:World} {B:Nat} {b:dO} {v:gJ} {x:Value} {lm:Int} (hx:x=dY b v) (hb:fC w B b v) (hB:B<=w.heap.size) (hs:b.small) (hho:∀b:dO,b.small->fG b=0->qR b=true->∀h:Nat,gN (fA b h) (dZ b h)=true):Calls Lo.prog 22 #[x,.int .i64 lm] w (φF w b lm):=by
 refine (Lo.O0 hx hb hB hs lm (λh1 h2 h _=>hho b hs h1 h2 h)).mono λe w' h=>jU_of ⟨h.1,?_⟩
 obtain ⟨-,h⟩:=h;split at h
 ·rwa [if_pos (by assumption)]
 rw [if_neg (by assumption)];split at h
 ·rwa [if_pos (by assumption)]
 rw [if_neg (by assumption)];split at h
 ·rw [if_pos (by assumption)];obtain ⟨A,cap,e1,h3, -⟩:=h;exact ⟨A,cap,e1,h3⟩
 ·rwa [if_neg (by assumption)]
theorem Lo.rjudge_u {w:World} {B:Nat} {b:dO} {v:gJ} {x:Value} {lm:Int} (hx:x=dY b v) (hb:fC w B b v) (hB:B<=w.heap.size) (hs:b.small) (hbc:GG b v):Calls Lo.prog 23 #[x,.int .i64 lm] w (φF w b lm):=
 (Lo.rjudge_any hx hb hB hs hbc lm).mono λe w' h=>jU_of h
def nF (b:dO):Int:=if fG b≠0 then 0 else Gv b
theorem first_post {w w':World} {b:dO} {e:Ending} (h:nC w b e w'):e= .returned (.tuple #[.int .i64 (nF b),.int .i64 (fG b)])∧Below w.heap.size w w':=by
 obtain ⟨h1,h⟩:=h;refine ⟨?_,h1⟩;unfold nF;split
 ·rename_i q;rwa [if_pos q] at h
 ·rename_i q;rw [if_neg q] at h;rw [h,show fG b=0 by simpa using q]
attribute [local irreducible] wpQuiet
theorem Lo.tjudge_any {w:World} {B:Nat} {b:dO} {v:gJ} (h5:ai2) (hb:fC w B b v) (hB:B<=w.heap.size) (hbc:GG b v) (lm:Int) (hho:∀b:dO,b.small->fG b=0->qR b=true->∀h:Nat,gN (fA b h) (dZ b h)=true):
 Calls Lo.prog 4 #[dY b v,.int .i64 lm] w λe w'=>e= .returned (.bool true):=by
 obtain ⟨U,U2,U3,U4,U5,U6⟩:=Lo.facts;have C:=Lo.call Tryz.func13;have C2:=Lo.call Tryz.func22;have C3:=Lo.call14;have C4:=Lo.call Tryz.func23;have C5:=Lo.call Tryz.func24;have C6:=Lo.call Tryz.func25;have H5:=Lib.hid h5;obtain ⟨Y,hY,sY,bW,hA,hC⟩:=book_box hb hB;have HC:=Lib.hid hC;have HA:=Lib.hid hA;have HY:=Lib.hid (And.intro hY bW);have HBC:=Lib.hid hbc;clear hY bW hA hC hb h5 hbc;show Calls Lo.prog 4 #[Value.agg (lN b v),.int .i64 lm] w _;unfold lN;go_enter Lo.get Tryz.func4,Tryz.ntmps4;go_wp2;have hy:=HY.out.1;unfold lN at hy;rw [hy];clear hy;refine (Lo.aa0 (b:=b) (v:=v) rfl (HA.out Y (Below.refl _ _)) (by omega)).mono ?_
 rintro e w1 ⟨rfl,h1⟩;obtain ⟨f0,f1,f2,f3⟩:=al8 (HC.out w1 h1);cases hg:Dz b with
 |true=>
  go_wp2;refine (H5.out _).mono ?_
  rintro e w5 ⟨rfl,rfl⟩;go_wp2;go_ret;rfl
 |false=>
  have hs:=Vz hg;clear hg;have s1:Y.heap.size<=w1.heap.size:=h1.size;have hjl:=jL_len hs lm;have m1:∀W,Below Y.heap.size Y W->Calls Lo.prog 22 #[bkV b v,.int .i64 lm] W (φF W b lm):= λW hW=>Lo.judge_u (x:=dY b v) rfl (HA.out W hW) (by have :=hW.size;omega) hs hho
  have m2:∀W,Below Y.heap.size Y W->Calls Lo.prog 23 #[bkV b v,.int .i64 lm] W (φF W b lm):= λW hW=>Lo.rjudge_u (x:=dY b v) rfl (HA.out W hW) (by have :=hW.size;omega) hs HBC.out
  have m3:∀W,Below Y.heap.size Y W->Calls Lo.prog 24 #[bkV b v] W λe w'=>e= .returned (.tuple #[.int .i64 (nF b),.int .i64 (fG b)])∧Below W.heap.size W w':= λW hW=>(Lo.O3 (x:=dY b v) rfl (HA.out W hW) (by have :=hW.size;omega) hs).mono λe w' h=>first_post h
  have m4:∀W,Below Y.heap.size Y W->Calls Lo.prog 25 #[bkV b v] W λe w'=>e= .returned (.tuple #[.int .i64 (nF b),.int .i64 (fG b)])∧Below W.heap.size W w':= λW hW=>(Lo.rfirst_any (x:=dY b v) rfl (HA.out W hW) (by have :=hW.size;omega) hs HBC.out).mono λe w' h=>first_post h
  unfold φF at m1 m2;generalize χt b lm=L at m1 m2 hjl;generalize ρn b lm=cx at m1 m2;generalize nF b=nf at m3 m4;generalize fG b=kx at m3 m4;obtain ⟨N,hN⟩:∃N,L.length=N:=⟨_,rfl⟩;rw [hN] at m1 m2 hjl;have HM:=Lib.hid (And.intro m1 (And.intro m2 (And.intro m3 m4)));have H1:=Lib.hid (And.intro h1 hN);clear m1 m2 m3 m4 h1 hN hho;go_wp2;refine (HM.out.1 w1 H1.out.1).mono ?_
  rintro e w2 ⟨h2,A1,c1,rfl,r1⟩;replace h2:=H1.out.1.trans (h2.mono s1);obtain ⟨f0,f1,f2,f3⟩:=al8 (HC.out w2 h2);have H2:=Lib.hid (And.intro h2 r1);have s2:Y.heap.size<=w2.heap.size:=h2.size;clear h2 r1;go_wp2;refine (HM.out.2.1 w2 H2.out.1).mono ?_
  rintro e w3 ⟨h3,A2,c2,rfl,r2⟩;have r1:=rdI_below H2.out.2 h3;replace h3:=H2.out.1.trans (h3.mono s2);obtain ⟨f0,f1,f2,f3⟩:=al8 (HC.out w3 h3);have H3:=Lib.hid (And.intro h3 (And.intro r1 r2));have s3:Y.heap.size<=w3.heap.size:=h3.size;clear h3 r1 r2;go_wp2
  go_loopw [9] (λi wr=>∃k:Nat,k<=N∧i= .int .i64 (k:Int)∧Below w3.heap.size w3 wr) (λi _=>N - (intOf i).toNat)
  case atStart=>exact ⟨0,Nat.zero_le _,rfl,Below.refl _ _⟩
  case round=>
   obtain ⟨k,hk,rfl,hbw⟩:=hrel;have HB:=Lib.hid hbw;have hYr:=H3.out.1.trans (hbw.mono s3);obtain ⟨f0,f1,f2,f3⟩:=al8 (HC.out wr hYr);have sr:Y.heap.size<=wr.heap.size:=hYr.size;have HYR:=Lib.hid hYr;clear hbw hYr
   by_cases hlt:k<N
   ·have hlt':(k:Int)<(N:Int):=by omega
    have hkl:k<L.length:=by rw [H1.out.2];exact hlt
    obtain ⟨b1,o1,rfl, -,q1⟩:=rdI_below H3.out.2.1 HB.out (by omega);obtain ⟨b2,o2,rfl, -,q2⟩:=rdI_below H3.out.2.2 HB.out (by omega);have r1:=Gj q1 hkl;have r2:=Gj q2 hkl;generalize L[k]=z at r1 r2;clear q1 q2 f0 f1 f2 f3;go_wp2
    go_quiet (fail)
    go_wp2;go_roundw
    case rel=>exact ⟨k+1,by omega,by go_num,below_drewN HB.out _⟩
    case measure=>simp [intOf];omega
   ·obtain rfl:k=N:=by omega
    go_wp2;refine (HM.out.2.2.1 wr HYR.out).mono ?_
    rintro e w4 ⟨rfl,h4⟩;replace h4:=HYR.out.trans (h4.mono sr);obtain ⟨f0,f1,f2,f3⟩:=al8 (HC.out w4 h4);have H4:=Lib.hid h4;clear h4;go_wp2;refine (HM.out.2.2.2 w4 H4.out).mono ?_
    rintro e w5 ⟨rfl, -⟩;clear f0 f1 f2 f3;go_wp2;refine (H5.out _).mono ?_
    rintro e w7 ⟨rfl,rfl⟩;go_wp2;go_ret;rfl
end Go.Proofs
end
