/- Part 13. -/
import Derived.BigRegion
import Derived.BigQuiet
import Derived.Deep.DeepMust
import Derived.Deep.CutRange
import Derived.Conc.WalkWords
import Derived.Test.YtnemnkmojiljmaaGreatH28
import Derived.Test.YtnemnkmojiljmaaGreatQ12
set_option maxRecDepth 100000
set_option maxHeartbeats 0
set_option linter.all false
namespace Go.Proofs
open Go Go.RowKit Go.Maps Go.Conc
variable [Lo.St]
attribute [local irreducible] wpQuiet
theorem Lo.masses_sp {w:World} {B:Nat} {b:dO} {v:gJ} {x:Value} (hx:x=dY b v) (hb:fC w B b v) (hB:B<=w.heap.size) (hs:b.small) (hc:fG b=0):
 Calls Lo.prog 15 #[x] w λe w'=>Below w.heap.size w w'∧if qR b=true then ∃A cap,e= .returned (.tuple #[.slice A b.dz.length cap,.int .i64 0])∧jR w' A b.dz.length (p8 b) else e= .returned (.tuple #[.slice none 0 0,.int .i64 9]):=by
 refine (Lo.K8 hx hb hB hs).mono λe w' h=>?_
 obtain ⟨h1,h2⟩:=h;rw [if_neg (by rw [hc];simp)] at h2;refine ⟨h1,?_⟩;split
 ·rename_i hh;rw [if_pos hh] at h2;obtain ⟨A,cap,e1,h3, -⟩:=h2;exact ⟨A,cap,e1,h3⟩
 ·rename_i hh;rw [if_neg hh] at h2;exact h2
theorem nil4 {W:World} {p:Nat} {x:Value} (h:W.heap[p]?=some (.cells #[x,x,x,x] 26)):W.cell? ⟨p,0,none⟩=some x∧W.cell? ⟨p,1,none⟩=some x∧W.cell? ⟨p,2,none⟩=some x∧W.cell? ⟨p,3,none⟩=some x∧W.frozen? ⟨p,0,none⟩=false∧W.frozen? ⟨p,1,none⟩=false∧W.frozen? ⟨p,2,none⟩=false∧W.frozen? ⟨p,3,none⟩=false:=by
 have f:∀j,W.frozen? ⟨p,j,none⟩=false:= λj=>by unfold World.frozen?;simp only [h];simp
 exact ⟨cell_of h 0,cell_of h 1,cell_of h 2,cell_of h 3,f 0,f 1,f 2,f 3⟩
theorem box_done {X w4 W:World} {p g q B n:Nat} {y0 y1 y2 y3 x:Value} {b:dO} {v:gJ} (hp:W.heap[p]?=some (.cells #[x,x,x,x] 26)) (hW:∀k,k<w4.heap.size->W.heap[k]?=w4.heap[k]?) (hs:w4.heap.size<=W.heap.size) (hpg:p≠g) (hpB:B<=p) (hB:B<=w4.heap.size) (hb:Below n X W) (hpn:n<=p) (h0:0<b.dA.length)
 (hbk:∀X:World,(∀k:Nat,k<B∨k=g->X.heap[k]?=w4.heap[k]?)->w4.heap.size<=X.heap.size->fC X X.heap.size b { v with ac:=some ⟨g,0,none⟩,cc:=q }):
 ((((W.setCell ⟨p,0,none⟩ y0).setCell ⟨p,1,none⟩ y1).setCell ⟨p,2,none⟩ y2).setCell ⟨p,3,none⟩ y3).heap[p]?=some (.cells #[y0,y1,y2,y3] 26)∧
 fC ((((W.setCell ⟨p,0,none⟩ y0).setCell ⟨p,1,none⟩ y1).setCell ⟨p,2,none⟩ y2).setCell ⟨p,3,none⟩ y3) ((((W.setCell ⟨p,0,none⟩ y0).setCell ⟨p,1,none⟩ y1).setCell ⟨p,2,none⟩ y2).setCell ⟨p,3,none⟩ y3).heap.size b { v with ac:=some ⟨g,0,none⟩,cc:=q }∧
 Below n X ((((W.setCell ⟨p,0,none⟩ y0).setCell ⟨p,1,none⟩ y1).setCell ⟨p,2,none⟩ y2).setCell ⟨p,3,none⟩ y3):=by
 have hg:g<w4.heap.size:=by
  obtain ⟨bb,off,e,h1, -⟩:=(hbk w4 (λ_ _=>rfl) (Nat.le_refl _)).dA h0;cases e;exact h1
 refine ⟨set4 hp,hbk _ (λk hk=>?_) ?_,(((hb.setCell (p:=⟨p,0,none⟩) hpn _).setCell (p:=⟨p,1,none⟩) hpn _).setCell (p:=⟨p,2,none⟩) hpn _).setCell (p:=⟨p,3,none⟩) hpn _⟩
 ·have hkp:k≠p:=by omega
  rw [Below.heap_setCell _ ⟨p,3,none⟩ _ k hkp,Below.heap_setCell _ ⟨p,2,none⟩ _ k hkp,Below.heap_setCell _ ⟨p,1,none⟩ _ k hkp,Below.heap_setCell _ ⟨p,0,none⟩ _ k hkp];exact hW k (by omega)
 ·simpa [World.setCell] using hs
theorem Lo.tends_any {w:World} {B:Nat} {b:dO} {v:gJ} {pile:Int} (h5:ai2) (hb:fC w B b v) (hB:B<=w.heap.size) (hbc:GG b v) (hpl:0<=pile∧pile<256):
 Calls Lo.prog 6 #[dY b v,.int .u8 pile] w λe w'=>e= .returned (.bool true):=by
 obtain ⟨U,U2,U3,U4,U5,U6⟩:=Lo.facts;have C:=Lo.call Tryz.func13;have C2:=Lo.call Tryz.func18;have C3:=Lo.call14;have C4:=Lo.call Tryz.func15;have C5:=Lo.call Tryz.func29;have C6:=Lo.call Tryz.func30;have E1:=(@Lo.ao9 inferInstance);have E2:=(@Lo.ap1 inferInstance);have E3:=(@Lo.ap0 inferInstance);have E4:=(@Lo.ag9 inferInstance);have H5:=Lib.hid h5;obtain ⟨Y,hY⟩:∃Y,w.alloc (.cells (lN b v) 26)=Y:=⟨_,rfl⟩;have bW:Below w.heap.size w Y:=hY ▸ (Below.refl _ _).alloc (Nat.le_refl _) _;have hA:∀W,Below Y.heap.size Y W->fC W B b v:= λW hW=>hb.keep λd o h=>dH (bW.trans (hW.mono bW.size)) d o (by omega)
 have g0:Y.heap[w.heap.size]?=some (.cells (lN b v) 26):=by rw [<-hY];exact World.alloc_heap_new _ _
 have sY:Y.heap.size=w.heap.size+1:=by rw [<-hY];simp
 have hC:∀W,Below Y.heap.size Y W->W.heap[w.heap.size]?=some (.cells #[.slice v.ah b.dJ.length v.ch,.slice v.ap b.dz.length v.cp,.slice v.iT b.steps.length v.cs,.slice v.ac b.dA.length v.cc] 26):= λW hW=>(hW.block w.heap.size (by omega)).trans g0
 have HC:=Lib.hid hC;have HA:=Lib.hid hA;have HY:=Lib.hid (And.intro hY bW);have HBC:=Lib.hid hbc;have hlc:b.dA.length<=v.cc:=hb.lc;clear hY bW hA hC g0 hb h5 hbc;show Calls Lo.prog 6 #[Value.agg (lN b v),_] w _;unfold lN;go_enter Lo.get Tryz.func6,Tryz.ntmps6;go_wp2;have hy:=HY.out.1;unfold lN at hy;rw [hy];clear hy;refine (Lo.aa0 (b:=b) (v:=v) rfl (HA.out Y (Below.refl _ _)) (by omega)).mono ?_
 rintro e w1 ⟨rfl,h1⟩;obtain ⟨f0,f1,f2,f3⟩:=al8 (HC.out w1 h1);cases hg:Dz b with
 |true=>
  go_wp2;refine (H5.out _).mono ?_
  rintro e w5 ⟨rfl,rfl⟩;go_wp2;go_ret;rfl
 |false=>
  have hs:=Vz hg;clear hg;go_wp2;refine (Lo.YR (b:=b) (v:=v) rfl (HA.out w1 h1) (by have :=h1.size;omega) hs HBC.out).mono ?_
  rintro e w2 ⟨rfl,h2⟩;replace h2:=h1.trans (h2.mono h1.size);clear h1 f0 f1 f2 f3;obtain ⟨f0,f1,f2,f3⟩:=al8 (HC.out w2 h2);generalize hcx:fG b=cx
  by_cases z:cx=0
  case neg=>
   clear hcx;go_wp2;refine (H5.out _).mono ?_
   rintro e w5 ⟨rfl,rfl⟩;go_wp2;go_ret;rfl
  subst z;have HX:=Lib.hid hcx;clear hcx
  by_cases hnp:b.dz.length=0
  ·have hnp':(b.dz.length:Int)=0:=by omega
   go_wp2;refine (H5.out _).mono ?_
   rintro e w5 ⟨rfl,rfl⟩;go_wp2;go_ret;rfl
  have hnp':¬(b.dz.length:Int)=0:=by omega
  go_wp2;refine (Lo.masses_sp (b:=b) (v:=v) rfl (HA.out w2 h2) (by have :=h2.size;omega) hs HX.out).mono ?_
  rintro e w3 ⟨h3,hm⟩;replace h3:=h2.trans (h3.mono h2.size);clear h2 f0 f1 f2 f3;obtain ⟨f0,f1,f2,f3⟩:=al8 (HC.out w3 h3)
  by_cases hh:qR b=true
  case neg=>
   rw [if_neg hh] at hm;subst hm;go_wp2;refine (H5.out _).mono ?_
   rintro e w5 ⟨rfl,rfl⟩;go_wp2;go_ret;rfl
  rw [if_pos hh] at hm;obtain ⟨A,cap,rfl,hsp⟩:=hm;obtain ⟨k,hk⟩:∃k:Nat,pile%(b.dz.length:Int)=(k:Int):=⟨(pile%(b.dz.length:Int)).toNat,by have :=Int.emod_nonneg pile hnp';omega⟩;have hkn:k<b.dz.length:=by have :=Int.emod_lt_of_pos pile (show (0:Int)<b.dz.length by omega);omega
  obtain ⟨bm,om,rfl,hbm,hcm⟩:=hsp (by omega);have l0:=hcm k 0 hkn (by omega);have l1:=hcm k 1 hkn (by omega);obtain ⟨e0,e1,e2⟩:=ends_book hkn hh;have hi1:= λn=>scale_in (b:=b) hkn hh (n:=n)
  have hi2:= λn=>scale_out (b:=b) hkn (n:=n)
  have HS:=Lib.hid (And.intro hh (And.intro hi1 hi2));clear hh hi1 hi2 hcm hsp;rw [show om+(k*2+0)=om+k*2 from rfl] at l0;rw [show om+(k*2+1)=om+k*2+1 from rfl] at l1;change w3.cell? _=some (.int .i64 (lowAt (p8 b) k)) at l0;change w3.cell? _=some (.int .i64 (highAt (p8 b) k)) at l1;obtain ⟨L,hL⟩:∃L,lowAt (p8 b) k=L:=⟨_,rfl⟩;obtain ⟨H,hH⟩:∃H,highAt (p8 b) k=H:=⟨_,rfl⟩;rw [hL] at l0 e0 e1 HS;rw [hH] at l1 e1 e2 HS;have HE:=Lib.hid (And.intro e0 (And.intro e1 (And.intro e2 (And.intro hL hH))));have hd1:decide (L<0)=false:=by simp;omega
  have hd2:decide (H<L)=false:=by simp;omega
  have hd3:decide (1000000<H)=false:=by simp;omega
  clear hL hH;go_wp2;rw [hk]
  go_quiet (fail)
  have h3':Below Y.heap.size Y (w3.drewN nq):=⟨h3.1,h3.2,h3.3,h3.4,h3.5⟩;have l0':(w3.drewN nq).cell? ⟨bm,om+k*2,none⟩=some (.int .i64 L):=l0;have l1':(w3.drewN nq).cell? ⟨bm,om+k*2+1,none⟩=some (.int .i64 H):=l1;obtain ⟨X,hX⟩:∃X,w3.drewN nq=X:=⟨_,rfl⟩;rw [hX] at h3' l0' l1';rw [hX];have hbX:bm<X.heap.size:=by rw [<-hX];exact hbm
  clear hX h3 l0 l1 f0 f1 f2 f3 hbm;go_wp2
  go_loopw [8] (λi wr=>∃j:Nat,j<=4∧i= .int .i64 (j:Int)∧Below X.heap.size X wr) (λi _=>4 - (intOf i).toNat)
  case atStart=>exact ⟨0,Nat.zero_le _,rfl,Below.refl _ _⟩
  case round=>
   obtain ⟨j,hj,rfl,hbr⟩:=hrel
   by_cases hlt:j<4
   ·have hlt':(j:Int)<4:=by omega
    obtain ⟨nv,hnv,hin⟩:∃nv:Int,(#[.int .i64 L,.int .i64 H,.int .i64 (L - 1),.int .i64 (H+1)]:Array Value)[j]?=some (.int .i64 nv)∧((j<2∧L<=nv∧nv<=H)∨(2<=j∧(nv<L∨H<nv))):=by
     obtain rfl|rfl|rfl|rfl:j=0∨j=1∨j=2∨j=3:=by omega
     ·exact ⟨L,rfl,.inl ⟨by omega,by omega,by omega⟩⟩
     ·exact ⟨H,rfl,.inl ⟨by omega,by omega,by omega⟩⟩
     ·exact ⟨L - 1,rfl,.inr ⟨by omega,by omega⟩⟩
     ·exact ⟨H+1,rfl,.inr ⟨by omega,by omega⟩⟩
    have hw1:IntKind.i64.wrap (L - 1)=L - 1:=by rw [IntKind.wrap_i64];omega
    have hw2:IntKind.i64.wrap (H+1)=H+1:=by rw [IntKind.wrap_i64];omega
    have r0:=(dH hbr bm _ hbX).trans l0';have r1:=(dH hbr bm _ hbX).trans l1';have HI:=Lib.hid (And.intro hin hnv);have HR:=Lib.hid hbr;clear hin hbr;go_wp2
    go_region
    have hnv':∀h,([.int .i64 L,.int .i64 H,.int .i64 (L - 1),.int .i64 (H+1)]:List Value)[j]'h= .int .i64 nv:= λh=>by
     have :=HI.out.2;rw [List.getElem?_toArray,List.getElem?_eq_getElem h] at this;exact Option.some.inj this
    rw [hnv'];have hb2:Below X.heap.size X (wr.alloc (.cells #[.int .i64 L,.int .i64 H,.int .i64 (L - 1),.int .i64 (H+1)] 3)).drew:=(HR.out.alloc HR.out.size _).drew;obtain ⟨X2,hX2⟩:∃X2,(wr.alloc (.cells #[.int .i64 L,.int .i64 H,.int .i64 (L - 1),.int .i64 (H+1)] 3)).drew=X2:=⟨_,rfl⟩;rw [hX2] at hb2;rw [hX2];have hbY:Below Y.heap.size Y X2:=h3'.trans (hb2.mono h3'.size);obtain ⟨f0,f1,f2,f3⟩:=al8 (HC.out X2 hbY);have WV:=Lib.hid (And.intro hb2 hbY);have sX2:Y.heap.size<=X2.heap.size:=hbY.size;clear hX2 r0 r1 hb2 hbY hnv hnv';go_wp2;have hoA:((X2.alloc (.cells #[.slice none 0 0,.slice none 0 0,.slice none 0 0,.slice none 0 0] 26)).alloc (.cells #[.int .i64 nv,.int .i64 nv] 51)).drew.heap[X2.heap.size]?=some (.cells #[.slice none 0 0,.slice none 0 0,.slice none 0 0,.slice none 0 0] 26):=(Below.heap_alloc _ _ _ (by simp)).trans (World.alloc_heap_new _ _)
    have hoB:((X2.alloc (.cells #[.int .i64 nv,.int .i64 nv] 51)).alloc (.cells #[.slice none 0 0,.slice none 0 0,.slice none 0 0,.slice none 0 0] 26)).drew.heap[X2.heap.size+1]?=some (.cells #[.slice none 0 0,.slice none 0 0,.slice none 0 0,.slice none 0 0] 26):=by
     have :=World.alloc_heap_new (X2.alloc (.cells #[.int .i64 nv,.int .i64 nv] 51)) (.cells #[.slice none 0 0,.slice none 0 0,.slice none 0 0,.slice none 0 0] 26)
     rwa [World.size_alloc] at this
    have HO:=Lib.hid (And.intro hoA hoB);clear hoA hoB;have hwX:w.heap.size<X2.heap.size:=by omega
    obtain ⟨ok,hok⟩:∃ok,decide (b.dA.length+1<=10)=ok:=⟨_,rfl⟩
    go_cut [10,11] from 86 to 171 (λs10 s11 wx=>∃p g q,s10= .pointer (some ⟨p,0,none⟩)∧s11= .bool ok∧wx.heap[p]?=some (.cells (lN (scB b ⟨(k:Int),nv,nv⟩) { v with ac:=some ⟨g,0,none⟩,cc:=q }) 26)∧fC wx wx.heap.size (scB b ⟨(k:Int),nv,nv⟩) { v with ac:=some ⟨g,0,none⟩,cc:=q }∧Below X2.heap.size X2 wx)
    case first =>
     go_region_law (first
      |(go_simp;go_at_call 30;refine (Lo.Bw _ _ _).mono ?_;rintro e w1 ⟨rfl,rfl⟩)
      |(go_simp
        go_at_call 29
        go_must (
        refine (Lo.scaled_any (b:=b) (v:=v) (B:=B) rfl ((HA.out X2 WV.out.2).keep λd o hd=>dH (B:=X2.heap.size) ?kk d o (by omega)) ?ll hs ⟨(k:Int),nv,nv⟩).mono ?_
        case kk=>first
         |exact ((Below.refl _ _).alloc (Nat.le_refl _) _).drew
         |exact (((Below.refl _ _).alloc (Nat.le_refl _) _).alloc (by simp) _).drew
        case ll=>simp;omega
        rintro e w4 ⟨g,q,rfl,hg1,hbk,hb4⟩;rw [hok];unfold dY
        first
         |(have hbx:=(hb4.block _ (by first |(simp;done)|(simp;omega))).trans HO.out.1;obtain ⟨y0,y1,y2,y3,z0,z1,z2,z3⟩:=nil4 hbx)
         |(have hbx:=(hb4.block _ (by first |(simp;done)|(simp;omega))).trans HO.out.2;obtain ⟨y0,y1,y2,y3,z0,z1,z2,z3⟩:=nil4 hbx)
         |have hbx:=trivial
        have hX4:Below X2.heap.size X2 w4:=Below.trans ?kk (hb4.mono (by first |(simp;done)|(simp;omega)))
        case kk=>first
         |exact ((Below.refl _ _).alloc (Nat.le_refl _) _).drew
         |exact (((Below.refl _ _).alloc (Nat.le_refl _) _).alloc (by simp) _).drew
        have hg2:X2.heap.size+1<=g:=by simp at hg1;omega
        have H4:=Lib.hid (And.intro hg1 (And.intro hbk (And.intro hb4 (And.intro hX4 (And.intro hg2 hbx)))));clear hg1 hbk hb4 hX4 hg2 hbx)))
     all_goals go_simp
     all_goals rename_i jj kk hj hk
     all_goals refine hk _ _ (Met.intro (hj _ _ ?_))
     all_goals repeat apply Exists.intro
     all_goals refine ⟨?_,rfl⟩
     all_goals refine ⟨_,g,q,rfl,rfl,?_⟩
     all_goals unfold lN
     all_goals dsimp only
     all_goals first
      |(with_reducible refine box_done (x:=.slice none 0 0) (w4:=w4) (B:=B) (n:=X2.heap.size) (X:=X2) (v:=v) (g:=g) (q:=q) (b:=scB b ⟨(k:Int),nv,nv⟩) ?_ ?_ ?_ ?_ ?_ ?_ ?_ ?_ ?_ ?_
        ·exact H4.out.2.2.2.2.2
        ·exact λ_ _=>rfl
        ·exact Nat.le_refl _
        ·have h1:=H4.out.1;have h2:=H4.out.2.2.2.2.1;simp at h1;omega
        ·omega
        ·have h1:=H4.out.2.2.2.1.size;omega
        ·exact H4.out.2.2.2.1
        ·omega
        ·show 0<(b.dA++ [_]).length;simp
        ·exact H4.out.2.1)
      |(with_reducible refine ⟨World.alloc_heap_new w4 _,?_,?_⟩
        ·refine H4.out.2.1 _ (λk hk=>Below.heap_alloc _ _ _ ?_) (by simp);obtain ⟨bb,off,e,h1, -⟩:=(H4.out.2.1 w4 (λ_ _=>rfl) (Nat.le_refl _)).dA (by show 0<(b.dA++ [_]).length;simp);cases e;have :=H4.out.2.2.2.1.size;omega
        ·exact H4.out.2.2.2.1.alloc H4.out.2.2.2.1.size _)
      |fail "neither form"
    case rest=>
     obtain ⟨p,g,q,rfl,rfl,hp,hbk,hbV⟩:=hcut;obtain ⟨f0,f1,f2,f3⟩:=al8 hp;have hbX4:Below X.heap.size X wc:=WV.out.1.trans (hbV.mono WV.out.1.size);have HV:=Lib.hid (And.intro hp (And.intro hbk (And.intro hbV hbX4)));clear hp hbk hbV hbX4;cases ok with
     |false=>
      go_wp2;go_roundw
      case rel=>exact ⟨j+1,by omega,by go_num,HV.out.2.2.2⟩
      case measure=>simp [intOf];omega
     |true=>
      by_cases q1:nv<0
      ·go_wp2;go_roundw
       case rel=>exact ⟨j+1,by omega,by go_num,HV.out.2.2.2⟩
       case measure=>simp [intOf];omega
      by_cases q2:1000000<nv
      ·go_wp2;go_roundw
       case rel=>exact ⟨j+1,by omega,by go_num,HV.out.2.2.2⟩
       case measure=>simp [intOf];omega
      have hlen:b.dA.length+1<=10:=of_decide_eq_true hok;have hcS:=checkF_snoc HX.out (x:=⟨(k:Int),nv,nv⟩) (by omega) ⟨by simp [kH];omega,by simp [eT];omega⟩;have hsS:(scB b ⟨(k:Int),nv,nv⟩).small:=⟨hs.dJ,hs.dz,hs.steps,by show (b.dA++ [_]).length<=64;simp;omega,hs.ins,hs.outs⟩;have HSS:=Lib.hid (And.intro hcS hsS);clear hcS hsS;go_wp2;refine (Lo.masses_sp (b:=scB b ⟨(k:Int),nv,nv⟩) (v:={ v with ac:=some ⟨g,0,none⟩,cc:=q }) rfl HV.out.2.1 (Nat.le_refl _) HSS.out.2 HSS.out.1).mono ?_
      rintro e w5 ⟨h5,hm⟩;have hb5:Below X.heap.size X w5:=HV.out.2.2.2.trans (h5.mono HV.out.2.2.2.size);obtain ⟨Cl,hCl⟩:∃Cl:World->Prop,∀W,Cl W↔Below w5.heap.size w5 W:=⟨_, λ_=>Iff.rfl⟩;have jI:=Lib.hid (And.intro hCl hb5);clear hCl hb5 f0 f1 f2 f3;rcases HI.out.1 with ⟨hj2,q3,q4⟩|⟨hj2,q3⟩
      ·obtain ⟨hh,e1,e2⟩:=HS.out.2.1 nv q3 q4;rw [if_pos hh,show (scB b ⟨(k:Int),nv,nv⟩).dz.length=b.dz.length from rfl] at hm;obtain ⟨A5,c5,rfl,hsp⟩:=hm;obtain ⟨b5,o5,rfl,hb5',hc5⟩:=hsp (by omega)
       have r0:w5.cell? ⟨b5,o5+k*2,none⟩=some (.int .i64 nv):=by
        have :=hc5 k 0 hkn (by omega);rw [<-e1];exact this
       have r1:w5.cell? ⟨b5,o5+k*2+1,none⟩=some (.int .i64 nv):=by
        have :=hc5 k 1 hkn (by omega);rw [<-e2];exact this
       have hj':(j:Int)<2:=by omega
       have hj5:decide ((2:Int)<=(j:Int))=false:=by simp;omega
       have HRR:=Lib.hid (λW (hW:Below w5.heap.size w5 W)=>And.intro ((dH hW b5 _ hb5').trans r0) ((dH hW b5 _ hb5').trans r1));clear hc5 hsp;go_wp2;refine iH (C:=Cl) Lo.mixed (by kernel_rfl) ((jI.out.1 _).2 (Below.refl _ _).drew) ?_
       repeat
        refine wpQuiet_step (λK hK=>?_);go_simp
        first
         |(apply Exists.intro;refine ⟨λW hW=>?_,hK _ ?_⟩
           ·obtain ⟨r0,r1⟩:=HRR.out W ((jI.out.1 W).1 hW)
            first
             |rfl
             |(go_simp;rfl)
             |(go_simp;go_at_call 30;refine (Lo.Bw _ _ _).mono ?_;rintro e w9 ⟨rfl,rfl⟩;exact ⟨rfl,(jI.out.1 _).2 (((jI.out.1 W).1 hW).alloc ((jI.out.1 W).1 hW).size _)⟩)
           clear hK K)
         |(refine hK _ ?_;clear hK K)
       refine wpQuiet_nil ?_
       intro z1 hb;have hz:=jI.out.2.trans (((jI.out.1 _).1 hb).mono jI.out.2.size);go_wp2;go_roundw
       case rel=>exact ⟨j+1,by omega,by go_num,hz⟩
       case measure=>simp [intOf];omega
      ·have hh:=HS.out.2.2 nv q3;rw [if_neg (by rw [hh];simp)] at hm;subst hm;have hj':¬(j:Int)<2:=by omega
       have hj3:(2:Int)<=(j:Int):=by omega
       have hj4:decide ((j:Int)<2)=false:=by simp;omega
       go_wp2;refine iH (C:=Cl) Lo.mixed (by kernel_rfl) ((jI.out.1 _).2 (Below.refl _ _).drew) ?_
       repeat
        refine wpQuiet_step (λK hK=>?_);go_simp
        first
         |(apply Exists.intro;refine ⟨λW hW=>?_,hK _ ?_⟩
           ·first
             |rfl
             |(go_simp;rfl)
           clear hK K)
         |(refine hK _ ?_;clear hK K)
       refine wpQuiet_nil ?_
       intro z1 hb;have hz:=jI.out.2.trans (((jI.out.1 _).1 hb).mono jI.out.2.size);go_wp2;go_roundw
       case rel=>exact ⟨j+1,by omega,by go_num,hz⟩
       case measure=>simp [intOf];omega
   ·obtain rfl:j=4:=by omega
    go_wp2;refine (H5.out _).mono ?_
    rintro e w5 ⟨rfl,rfl⟩;go_wp2;go_ret;rfl
end Go.Proofs
