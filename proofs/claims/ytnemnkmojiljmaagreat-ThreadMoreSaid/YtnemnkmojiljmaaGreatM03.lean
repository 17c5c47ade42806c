/- Part 3. -/
import Derived.Deep.DeepMust
import Derived.Deep.CutRange
import Derived.Test.YtnemnkmojiljmaaGreatM02
set_option maxRecDepth 100000
set_option maxHeartbeats 0
set_option linter.all false
namespace Go.Proofs
open Go Go.RowKit Go.Maps
variable [Lo.St]
attribute [local irreducible] wpQuiet
theorem Lo.aw3 {w:World} {B:Nat} {b:dO} {v:gJ} {x:Value} (hx:x=dY b v) (hb:fC w B b v) (hB:B<=w.heap.size) (hs:b.small) (hc:fG b=0) (hh:qR b=true):
 Calls Lo.prog 20 #[x] w λe w'=>Below w.heap.size w w'∧∃A cap,e= .returned (.tuple #[.slice A b.steps.length cap,.int .i64 0])∧jR w' A b.steps.length (yY b):=by
 refine (Lo.K9 hx hb hB hs).mono λe w' h=>?_
 obtain ⟨h1,h2⟩:=h;rw [aa (by rw [hc];simp),aj hh] at h2;obtain ⟨A,cap,e1,h3, -⟩:=h2;exact ⟨h1,A,cap,e1,h3⟩
theorem Lo.ax2 {w:World} {B:Nat} {b:dO} {v:gJ} {x:Value} (hx:x=dY b v) (hb:fC w B b v) (hB:B<=w.heap.size) (hs:b.small) (hc:fG b=0) (hh:qR b=true) {limit:Int} (hl:0<=limit∧limit<65536):
 Calls Lo.prog 22 #[x,.int .i64 limit] w λe w'=>Below w.heap.size w w'∧∃A cap,e= .returned (.tuple #[.slice A b.dJ.length cap,.int .i64 0])∧xJ w' w'.heap.size A (zT b limit):=by
 refine (Lo.O0 hx hb hB hs limit λ_ _ h _=>av7 hs hc hh h).mono λe w' h=>?_
 obtain ⟨h1,h2⟩:=h;rw [aa (by rw [hc];simp),aa (by unfold kH;simp;omega),aj hh] at h2;obtain ⟨A,cap,e1,h3, -⟩:=h2;exact ⟨h1,A,cap,e1,h3⟩
theorem Lo.Kg {w:World} {B:Nat} {b:dO} {v:gJ} {x:Value} (hx:x=dY b v) (hb:fC w B b v) (hB:B<=w.heap.size) (hs:b.small) (hc:fG b=0):
 Calls Lo.prog 15 #[x] w λe w'=>Below w.heap.size w w'∧∃(A:Option Addr) (m cap:Nat) (z:Int),e= .returned (.tuple #[.slice A m cap,.int .i64 z])∧m=(if qR b=true then b.dz.length else 0)∧z=(if qR b=true then 0 else 9)∧(qR b=true->jR w' A m (p8 b)):=by
 refine (Lo.K8 hx hb hB hs).mono λe w' h=>?_
 obtain ⟨h1,h2⟩:=h;rw [aa (by rw [hc];simp)] at h2;refine ⟨h1,?_⟩;split
 ·rename_i hh;rw [aj hh] at h2;obtain ⟨A,cap,e1,h3, -⟩:=h2;exact ⟨A,_,cap,_,e1,rfl,rfl, λ_=>h3⟩
 ·rename_i hh;rw [aa hh] at h2;exact ⟨_,_,_,_,h2,rfl,rfl, λh=>absurd h hh⟩
theorem Lo.az1 {w:World} {B:Nat} {b:dO} {v:gJ} {x:jD} {limit:Int} {A:Option Addr} {pk:List Int} {cp:Nat} (h5:ai2) (hb:fC w B b v) (hB:B<=w.heap.size) (hbc:GG b v) (hl:0<=limit∧limit<65536) (hp:RdU w B A pk) (hu:U16 pk):
 Calls Lo.prog 8 #[dY b v,av8 x,.int .u16 limit,.slice A pk.length cp] w λe w'=>e= .returned (.bool true):=by
 obtain ⟨U,U2,U3,U4,U5,U6⟩:=Lo.facts;have C:=Lo.call Tryz.func13;have C2:=Lo.call Tryz.func18;have C3:=Lo.call14;have C4:=Lo.call Tryz.func15;have C5:=Lo.call Tryz.func29;have C6:=Lo.call Tryz.func20;have C7:=Lo.call Tryz.func22;have C8:=Lo.call Tryz.func33;have E1:=(@Lo.ao9 inferInstance);have E2:=(@Lo.ap1 inferInstance);have E3:=(@Lo.ap0 inferInstance);have E4:=(@Lo.ag9 inferInstance);have H5:=dw h5;obtain ⟨Y,hY⟩:∃Y,(w.alloc (.cells (lN b v) 26)).alloc (.cells #[.int .i64 x.pile,.int .i64 x.lo,.int .i64 x.hi] 59)=Y:=⟨_,rfl⟩;have bW:Below w.heap.size w Y:=hY ▸ ((di _ _).alloc (aJ _) _).alloc (by simp) _;have hA:∀W,Below Y.heap.size Y W->fC W B b v:= λW hW=>hb.keep λd o h=>dH (bW.trans (hW.mono bW.size)) d o (by omega)
 have hP:∀W,Below Y.heap.size Y W->RdU W B A pk:= λW hW=>hp.keep λd o h=>dH (bW.trans (hW.mono bW.size)) d o (by omega)
 have g0:Y.heap[w.heap.size]?=some (.cells (lN b v) 26):=by rw [<-hY,cZ _ _ _ (by simp)];exact cK _ _
 have g1:Y.heap[w.heap.size+1]?=some (.cells #[.int .i64 x.pile,.int .i64 x.lo,.int .i64 x.hi] 59):=by
  rw [<-hY];have :=cK (w.alloc (.cells (lN b v) 26)) (.cells #[.int .i64 x.pile,.int .i64 x.lo,.int .i64 x.hi] 59)
  rwa [World.size_alloc] at this
 have sY:Y.heap.size=w.heap.size+2:=by rw [<-hY];simp
 have hC:∀W,Below Y.heap.size Y W->W.heap[w.heap.size]?=some (.cells #[.slice v.ah b.dJ.length v.ch,.slice v.ap b.dz.length v.cp,.slice v.iT b.steps.length v.cs,.slice v.ac b.dA.length v.cc] 26):= λW hW=>(hW.block w.heap.size (by omega)).trans g0
 have hD:∀W,Below Y.heap.size Y W->W.heap[w.heap.size+1]?=some (.cells #[.int .i64 x.pile,.int .i64 x.lo,.int .i64 x.hi] 59):= λW hW=>(hW.block (w.heap.size+1) (by omega)).trans g1
 have HC:=dw (aM hC hD);have HA:=dw hA;have HP:=dw (aM hP hu);have HY:=dw (aM hY bW);have HBC:=dw hbc;have hlc:b.dA.length<=v.cc:=hb.lc
 have hac:v.ac=none->b.dA.length=0:= λe=>by
  by_cases h:0<b.dA.length
  ·obtain ⟨bb,off,e',_⟩:=hb.dA h;rw [e] at e';cases e'
  ·omega
 clear hY bW hA hP hC hD g0 g1 hb h5 hbc hp hu;show Calls Lo.prog 8 #[Value.agg (lN b v),av8 x,_,_] w _;unfold lN av8;go_enter Lo.get Tryz.func8,Tryz.ntmps8;go_wp2;have hy:=HY.out.1;unfold lN at hy;rw [hy];clear hy;refine (Lo.aa0 (b:=b) (v:=v) rfl (HA.out Y (di _ _)) (by omega)).mono ?_
 rintro e w1 ⟨rfl,h1⟩;obtain ⟨f0,f1,f2,f3⟩:=al8 (HC.out.1 w1 h1);cases hg:Dz b with
 |true=>
  go_wp2;refine (H5.out _).mono ?_
  rintro e w5 ⟨rfl,rfl⟩;go_wp2;go_ret;rfl
 |false=>
  have hs:=Vz hg;clear hg;go_wp2;refine (Lo.YR (b:=b) (v:=v) rfl (HA.out w1 h1) (by have :=h1.size;omega) hs HBC.out).mono ?_
  rintro e w2 ⟨rfl,h2⟩;replace h2:=h1.trans (h2.mono h1.size);clear h1 f0 f1 f2 f3;obtain ⟨f0,f1,f2,f3⟩:=al8 (HC.out.1 w2 h2);generalize hcx:fG b=cx
  by_cases z:cx=0
  case neg=>
   clear hcx;go_wp2;refine (H5.out _).mono ?_
   rintro e w5 ⟨rfl,rfl⟩;go_wp2;go_ret;rfl
  subst z;have HX:=dw hcx;clear hcx;have hsc:=hs.dA;obtain ⟨i0,hi,hz0,hz1,hz2⟩:=info_parts Lo.YS;have HH2:=dw h2;have sz2:Y.heap.size<=w2.heap.size:=h2.size
  have hn1:∀X:World,Below Y.heap.size Y X->∀ad,v.ac=some ad->∀j u,(cells3 b.dA)[j]?=some u->X.cell? (ad.add j)=some u:= λX hX ad e j u hu=>by
   have hl:=(aY.1 hu).1;rw [bP] at hl;obtain ⟨bb,off,e',hbb,hc⟩:=(HA.out X hX).dA (by omega);rw [e] at e';cases e';have h1:=hc (j / 3) (j%3) (by omega) (Nat.mod_lt _ (by decide));have h2:=bN b.dA (i:=j / 3) (j:=j%3) (by omega) (Nat.mod_lt _ (by decide));rw [show j / 3*3+j%3=j by omega] at h1 h2;rw [h2] at hu;rw [<-hu, <-h1,show (⟨bb,off,none⟩:Addr).add j=⟨bb,off+j,none⟩ from by unfold Addr.add;split<;>simp_all]
  have HN:=dw (aM hn1 hac);clear hn1 hac h2;obtain ⟨Z,hZ⟩:∃Z,w2.alloc (.cells #[.slice v.ah b.dJ.length v.ch,.slice v.ap b.dz.length v.cp,.slice v.iT b.steps.length v.cs,.slice v.ac b.dA.length v.cc] 26)=Z:=⟨_,rfl⟩;have sZ:Z.heap.size=w2.heap.size+1:=by rw [<-hZ];simp
  have bZ:Below Y.heap.size Y Z:=hZ ▸ HH2.out.alloc sz2 _;have z0:Z.heap[w2.heap.size]?=some (.cells #[.slice v.ah b.dJ.length v.ch,.slice v.ap b.dz.length v.cp,.slice v.iT b.steps.length v.cs,.slice v.ac b.dA.length v.cc] 26):=hZ ▸ cK _ _
  have bE:Below Y.heap.size Y (Z.alloc (.cells #[] 59)):=bZ.alloc bZ.size _;have q0:w.heap.size<w2.heap.size:=by omega
  have q1:w.heap.size<w2.heap.size+1:=by omega
  have hown0:(Z.alloc (.cells #[] 59)).ownsRow Z.heap.size 59 3 (.slice (some ⟨w2.heap.size+1,0,none⟩) 0 0) 0 []:=by
   refine ⟨rfl,.inr ⟨w2.heap.size+1,0,#[],rfl,by omega,by rw [<-sZ];exact cK _ _,aJ _,?_,?_,?_⟩⟩
   all_goals simp
  have HZ:=dw (aM bZ (aM z0 (aM bE hown0)));have HZZ:=dw hZ;clear hZ bZ z0 bE hown0
  go_wp2_with (first
   |(at_builtin;rw [HZZ.out];refine bU rfl _ _ 24 rfl Z.heap.size 59 i0 (.agg #[.int .i64 0,.int .i64 0,.int .i64 0]) 3 24 Lo.Xi hi hz0 hz1 hz2 rfl (by decide) (.slice (some ⟨w2.heap.size+1,0,none⟩) 0 0) 0 [] rfl HZ.out.2.2.2 v.ac b.dA.length v.cc (cells3 b.dA) rfl (bP _) (HN.out.1 _ HZ.out.2.2.1) HN.out.2 (λu hu=>bS hu) (by unfold maxLen;omega) (by omega) (by simp) ?_
     go_loud (
      intro v1 w3 a1 a2;have a1':w3.ownsRow Z.heap.size 59 3 v1 b.dA.length (cells3 b.dA):=by have h:=a1;rwa [Nat.zero_add,List.nil_append] at h
      obtain ⟨A1,cA,rfl,hq1, -⟩:=ownsRow.rd (B:=0) (f:=vD b.dA) a1' (λi j hi hj=>bN _ hi hj);have b3:Below Z.heap.size Z w3:=Below.grown ((di _ _).alloc (aJ _) _) a2 (by simp) (λj hj=>by simp [Value.ownBlock] at hj;omega);have z3:=(b3.block w2.heap.size (by omega)).trans HZ.out.2.1;have c9:=cell_of z3 3;have f9:w3.frozen? ⟨w2.heap.size,3,none⟩=false:=by unfold World.frozen?;simp only [z3];rfl
      have HW3:=dw (aM b3 (aM z3 (aM a1' hq1)));clear a1 a1' a2 b3 z3)))
  obtain ⟨n,hn⟩:∃n,b.dA.length=n:=⟨_,rfl⟩;obtain ⟨V,hV⟩:∃V,w3.setCell ⟨w2.heap.size,3,none⟩ (.slice A1 b.dA.length cA)=V:=⟨_,rfl⟩
  have vb:V.heap[w2.heap.size]?=some (.cells #[.slice v.ah b.dJ.length v.ch,.slice v.ap b.dz.length v.cp,.slice v.iT b.steps.length v.cs,.slice A1 b.dA.length cA] 26):=by
   rw [<-hV,heap_setCell_same w3 w2.heap.size 3 _ 26 _ HW3.out.2.1];rfl
  have b3:Below Z.heap.size Z w3:=HW3.out.1
  have bV:Below Y.heap.size Y V:=by
   rw [<-hV];exact (HZ.out.1.trans (b3.mono HZ.out.1.size)).setCell (p:=⟨w2.heap.size,3,none⟩) (by show Y.heap.size<=w2.heap.size;omega) _
  have oV:∀k:Nat,k≠w2.heap.size->V.heap[k]?=w3.heap[k]?:= λk hk=>by rw [<-hV];exact Below.heap_setCell w3 ⟨w2.heap.size,3,none⟩ _ k hk
  have sV:V.heap.size=w3.heap.size:=by rw [<-hV];simp [World.setCell]
  obtain ⟨g,o0,ho0,hg1,hg⟩:∃g o0,o0=0∧w2.heap.size<g∧(0<n->A1=some ⟨g,o0,none⟩∧g<V.heap.size∧∃cs,V.heap[g]?=some (.cells cs 59)∧ScA cs b.dA):=by
   have h3:=b3.size;rcases HW3.out.2.2.1.2 with ⟨e1,e2⟩|⟨g,cap,cur,e1,e2,e3,e4,e5,e6,e7⟩
   ·exact ⟨w2.heap.size+1,0,rfl,by omega, λh=>by omega⟩
   ·cases e1;have :=(aI.1 e3).1;refine ⟨g,0,rfl,by omega, λh=>⟨rfl,by omega,cur,(oV g (by omega)).trans e3, λi j hi hj=>?_⟩⟩;have h1:=bN b.dA hi hj;rw [<-e7,List.getElem?_take] at h1;split at h1
    ·rw [<-Array.getElem?_toList];exact h1
    ·cases h1
  rw [hV,hn];have HV:=dw (aM vb (aM bV (aM hg1 (aM hg (aM hn (aM ho0 HW3.out.2.2.2))))));clear hV vb b3 bV oV sV hg1 hg hn ho0 HW3 c9 f9 HZZ q0 q1 sZ HZ;obtain ⟨f,hf⟩:∃f:Nat->Nat,f= λk=>if k<pk.length then k+((pk[k]?).getD 0%((n:Int) - k)).toNat else k:=⟨_,rfl⟩
  go_loopw [10] (λi wr=>∃k:Nat,k<=n∧i= .int .i64 (k:Int)∧V.grownBy wr (some g)∧(0<n->∃cs,wr.heap[g]?=some (.cells cs 59)∧ScA cs (swaps f b.dA k))) (λi _=>n - (intOf i).toNat)
  case atStart=>exact ⟨0,bg _,rfl,pX _ _, λh=>by obtain ⟨_,_,cs,h1,h2⟩:=HV.out.2.2.2.1 h;exact ⟨cs,h1,h2⟩⟩
  case round=>
   obtain ⟨k,hk,rfl,hgr,hcs⟩:=hrel
   have c9:wr.heap[w2.heap.size]?=some (.cells #[.slice v.ah b.dJ.length v.ch,.slice v.ap b.dz.length v.cp,.slice v.iT b.steps.length v.cs,.slice A1 n cA] 26):=by
    have h:=HV.out.1;rw [HV.out.2.2.2.2.1] at h;have h3:=(aI.1 h).1;exact (hgr.block w2.heap.size h3 (by have :=HV.out.2.2.1;simp;omega)).trans h
   have bwr:Below Y.heap.size Y wr:=Below.grown HV.out.2.1 hgr HV.out.2.1.size (λj hj=>by have :=HV.out.2.2.1;simp at hj;omega);obtain ⟨y0,y1,y2,y3⟩:=al8 c9
   by_cases hlt:k<n
   ·have hlt':(k:Int)<(n:Int):=by omega
    obtain ⟨rfl,hgV, -⟩:=HV.out.2.2.2.1 (by omega);obtain ⟨cs,hc1,hc2⟩:=hcs (by omega);have hll:(swaps f b.dA k).length=n:=by rw [(bO f b.dA k).length_eq,HV.out.2.2.2.2.1]
    obtain ⟨m,hm⟩:∃m,f k=m:=⟨_,rfl⟩;obtain ⟨pv,hpv⟩:∃pv,(pk[k]?).getD 0=pv:=⟨_,rfl⟩
    have aA8:0<=pv∧pv<65536:=by
     rw [<-hpv];rcases he:pk[k]? with _|z
     ·simp
     ·exact HP.out.2 z (List.mem_of_getElem? he)
    have hmm:m=if k<pk.length then k+(pv%((n:Int) - k)).toNat else k:=by rw [<-hm,hf, <-hpv]
    have hmn:m<n:=by
     rw [hmm];split
     ·have h1:=Int.emod_lt_of_pos pv (show (0:Int)<(n:Int) - k by omega);have h2:=Int.emod_nonneg pv (show ((n:Int) - k)≠0 by omega);omega
     ·exact hlt
    obtain ⟨xk,hxk⟩:∃z,(swaps f b.dA k)[k]?=some z:=⟨_,aN (by omega)⟩
    obtain ⟨xm,hxm⟩:∃z,(swaps f b.dA k)[m]?=some z:=⟨_,aN (by omega)⟩
    have rd:∀i z,(swaps f b.dA k)[i]?=some z->∀j,j<3->wr.cell? ⟨g,o0+(i*3+j),none⟩=some (z.cells j):= λi z hz j hj=>by
     have h:=hc2 i j (aY.1 hz).1 hj;unfold vD at h;rw [hz] at h;exact cell_of hc1 _ (by rw [HV.out.2.2.2.2.2.1,Nat.zero_add];exact h)
    have r0:=rd k xk hxk 0 (by omega);have r1:=rd k xk hxk 1 (by omega);have r2:=rd k xk hxk 2 (by omega);have m0:=rd m xm hxm 0 (by omega);have m1:=rd m xm hxm 1 (by omega);have m2:=rd m xm hxm 2 (by omega);simp only [aH, <-Nat.add_assoc] at r0 r1 r2 m0 m1 m2;change wr.cell? _=some (.int .i64 xk.pile) at r0;change wr.cell? _=some (.int .i64 xk.lo) at r1;change wr.cell? _=some (.int .i64 xk.hi) at r2;change wr.cell? _=some (.int .i64 xm.pile) at m0;change wr.cell? _=some (.int .i64 xm.lo) at m1;change wr.cell? _=some (.int .i64 xm.hi) at m2;have aA9:n<=64:=by have :=HV.out.2.2.2.2.1;omega
    have hgs:g<wr.heap.size:=(aI.1 hc1).1;have hps:w2.heap.size<wr.heap.size:=(aI.1 c9).1;have fz:∀j,wr.frozen? ⟨g,j,none⟩=false:= λj=>by unfold World.frozen?;simp only [hc1];simp
    have h00:o0=0:=HV.out.2.2.2.2.2.1
    have mid:∀W4:World,wr.grownBy W4 none->∀W5,(((W4.setCell ⟨g,o0+k*3,none⟩ (.int .i64 xm.pile)).setCell ⟨g,o0+k*3+1,none⟩ (.int .i64 xm.lo)).setCell ⟨g,o0+k*3+2,none⟩ (.int .i64 xm.hi)).drew=W5->
     (∃c5,W5.heap[g]?=some (.cells c5 59)∧ScA c5 ((swaps f b.dA k).set k xm))∧(∃u0 u1 u2,W5.cell? ⟨g,o0+m*3,none⟩=some u0∧W5.cell? ⟨g,o0+m*3+1,none⟩=some u1∧W5.cell? ⟨g,o0+m*3+2,none⟩=some u2)∧(∀j,W5.frozen? ⟨g,j,none⟩=false)∧wr.grownBy W5 (some g)∧∀d,d≠g->W5.heap[d]?=W4.heap[d]?:=by
     intro W4 b4 W5 e5;subst h00;have g4:W4.heap[g]?=_:=(b4.block g hgs (by simp)).trans hc1
     have e6:W5.heap[g]?=some (.cells (ay8 cs (0+k*3) (.int .i64 xm.pile) (.int .i64 xm.lo) (.int .i64 xm.hi)) 59):=by rw [<-e5];exact aA4 g4
     have e7:∀d,d≠g->W5.heap[d]?=W4.heap[d]?:= λd hd=>by
      rw [<-e5];show (World.setCell _ _ _).heap[d]?=_
      rw [Below.heap_setCell _ ⟨g,_,none⟩ _ d hd,Below.heap_setCell _ ⟨g,_,none⟩ _ d hd,Below.heap_setCell _ ⟨g,_,none⟩ _ d hd]
     have e8:W5.heap.size=W4.heap.size:=by rw [<-e5];simp [World.setCell]
     have a5:ScA (ay8 cs (0+k*3) (.int .i64 xm.pile) (.int .i64 xm.lo) (.int .i64 xm.hi)) ((swaps f b.dA k).set k xm):=by rw [Nat.zero_add];exact hc2.put (by omega) xm
     refine ⟨⟨_,e6,a5⟩,?_, λj=>by unfold World.frozen?;simp only [e6];simp,?_,e7⟩
     ·have h0:=a5 m 0 (by rw [List.length_set];omega) (by omega);have h1:=a5 m 1 (by rw [List.length_set];omega) (by omega);have h2:=a5 m 2 (by rw [List.length_set];omega) (by omega);exact ⟨_,_,_,cell_of e6 _ (by rw [show 0+m*3=m*3+0 by omega];exact h0),cell_of e6 _ (by rw [show 0+m*3+1=m*3+1 by omega];exact h1),cell_of e6 _ (by rw [show 0+m*3+2=m*3+2 by omega];exact h2)⟩
     ·have e9:wr.grownBy W4 (some g):=⟨b4.os,b4.tape,b4.output,b4.size, λi hi h=>b4.block i hi (by simp)⟩;rw [<-e5];exact pW e9 (pW (lK _ _ _ _) (pW (lK _ _ _ _) (pW (lK _ _ _ _) (KU _ (some g)) (λ_ h=>.inr h)) (λ_ h=>.inr h)) (λ_ h=>.inr h)) (λ_ h=>.inr h)
    have fin:∀(W5:World) (c5:Array Value),W5.heap[g]?=some (.cells c5 59)->ScA c5 ((swaps f b.dA k).set k xm)->wr.grownBy W5 (some g)->∀W6,((W5.setCell ⟨g,o0+m*3,none⟩ (.int .i64 xk.pile)).setCell ⟨g,o0+m*3+1,none⟩ (.int .i64 xk.lo)).setCell ⟨g,o0+m*3+2,none⟩ (.int .i64 xk.hi)=W6->
     V.grownBy W6 (some g)∧(0<n->∃cs,W6.heap[g]?=some (.cells cs 59)∧ScA cs (swaps f b.dA (k+1))):=by
     intro W5 c5 g5 a5 b5 W6 e6;subst h00;refine ⟨?_, λ_=>⟨ay8 c5 (0+m*3) (.int .i64 xk.pile) (.int .i64 xk.lo) (.int .i64 xk.hi),by rw [<-e6];exact aA4 g5,?_⟩⟩
     ·rw [<-e6];exact pW hgr (pW b5 (pW (lK _ _ _ _) (pW (lK _ _ _ _) (lK _ _ _ _) (λ_ h=>.inr h)) (λ_ h=>.inr h)) (λ_ h=>.inr h)) (λ_ h=>.inr h)
     ·have e:swaps f b.dA (k+1)=((swaps f b.dA k).set k xm).set m xk:=by
       rw [swaps];simp only [hm,hxk,hxm]
      rw [e,Nat.zero_add];exact a5.put (by rw [List.length_set];omega) xk
    have HF:=dw (aM mid fin);clear mid fin h00;have HR:=dw (aM hgr (aM hc1 (aM hc2 (aM hll (aM hm (aM hxk (aM hxm (aM bwr (aM rd (aM hf c9))))))))));clear hgr hcs hc1 hc2 hll hm hxk hxm rd bwr hf c9;rcases bq k pk.length with hpk|hpk
    case' inl=>
     rw [aj hpk] at hmm;have hpk':(k:Int)<(pk.length:Int):=by omega
     obtain ⟨bp,op,rfl,hbp,hcp⟩:=HP.out.1 wr HR.out.2.2.2.2.2.2.2.1 (by omega)
     have p0:wr.cell? ⟨bp,op+k,none⟩=some (.int .u16 pv):=by
      have h:=hcp k 0 hpk (by omega);unfold ay6 at h;rw [hpv,Nat.mul_one,aH] at h;exact h
     have hw1:IntKind.i64.wrap ((n:Int) - (k:Int))=(n:Int) - k:=by rw [cB];omega
     have hmz:(k:Int)+pv%((n:Int) - k)=(m:Int):=by
      rw [hmm];have h2:=Int.emod_nonneg pv (show ((n:Int) - k)≠0 by omega);omega
     have hnz:¬((n:Int) - (k:Int))=0:=by omega
     clear hmm hcp;go_wp2
     go_quiet (fail)
     obtain ⟨w',hw'⟩:∃w',wr.drewN nq=w':=⟨_,rfl⟩;have e1:∀a,w'.cell? a=wr.cell? a:= λa=>by rw [<-hw'];rfl
     have e2:wr.grownBy w' none:=by rw [<-hw'];exact ⟨rfl,rfl,rfl,aJ _, λ_ _ _=>rfl⟩
     have e3:wr.heap.size=w'.heap.size:=by rw [<-hw'];rfl
     have e4:∀a,w'.frozen? a=wr.frozen? a:= λa=>by rw [<-hw'];rfl
     rw [hw'];rw [<-e1] at r0 r1 r2 m0 m1 m2 y0 y1 y2 y3;rw [e3] at hgs hps;simp only [<-e4] at fz;clear e1 e3 e4 hw';go_wp2
    case' inr=>
     rw [aa (by omega)] at hmm;have hpk':¬(k:Int)<(pk.length:Int):=by omega
     obtain rfl:=hmm
     obtain rfl:xk=xm:=by
      have h1:=HR.out.2.2.2.2.2.1;rw [HR.out.2.2.2.2.2.2.1] at h1;exact (aT h1).symm
     clear m0 m1 m2;obtain ⟨w',hw'⟩:∃w',wr=w':=⟨_,rfl⟩;have e2:wr.grownBy w' none:=by rw [<-hw'];exact pX _ _
     rw [hw'] at r0 r1 r2 y0 y1 y2 y3 hgs hps fz ⊢;have m0:=r0;have m1:=r1;have m2:=r2;clear hw';go_wp2
    all_goals
     obtain ⟨W4,YA⟩:∃W4,w'.alloc (.cells #[.int .i64 xk.pile,.int .i64 xk.lo,.int .i64 xk.hi] 59)=W4:=⟨_,rfl⟩;have t4:W4.heap[w'.heap.size]?=some (.cells #[.int .i64 xk.pile,.int .i64 xk.lo,.int .i64 xk.hi] 59):=YA ▸ cK _ _
     have s4:W4.heap.size=w'.heap.size+1:=by rw [<-YA];simp
     have b4:wr.grownBy W4 none:=by
      rw [<-YA];exact ⟨e2.os,e2.tape,e2.output,by simp;have :=e2.size;omega, λi hi h=>(cZ _ _ _ (by have :=e2.size;omega)).trans (e2.block i hi h)⟩
     have k4:∀d o,d<w'.heap.size->W4.cell? ⟨d,o,none⟩=w'.cell? ⟨d,o,none⟩:= λd o hd=>by rw [<-YA];exact dh _ _ _ hd
     have g4:W4.heap[g]?=_:=(b4.block g (aI.1 HR.out.2.1).1 (by simp)).trans HR.out.2.1
     have n0:=(k4 g _ hgs).trans m0;have n1:=(k4 g _ hgs).trans m1;have n2:=(k4 g _ hgs).trans m2;have l0:=(k4 g _ hgs).trans r0;have l1:=(k4 g _ hgs).trans r1;have l2:=(k4 g _ hgs).trans r2;have z3:=(k4 _ 3 hps).trans y3;have fz4:∀j,W4.frozen? ⟨g,j,none⟩=false:= λj=>by unfold World.frozen?;simp only [g4];simp
     have H4:=dw (aM b4 (aM t4 (aM g4 s4)));rw [YA];clear YA t4 b4 k4 g4 m0 m1 m2 r0 r1 r2 y0 y1 y2 y3 fz e2
     go_region
     generalize hW5:World.drew (World.setCell (World.setCell (World.setCell W4 _ _) _ _) _ _)=W5;obtain ⟨⟨c5,g5,a5⟩,⟨u0,u1,u2,v0,v1,v2⟩,fz5,b5,o5⟩:=HF.out.1 W4 H4.out.1 W5 hW5;have t5:=(o5 w'.heap.size (by omega)).trans H4.out.2.1;obtain ⟨x0,x1,x2⟩:W5.cell? ⟨w'.heap.size,0,none⟩=some (.int .i64 xk.pile)∧W5.cell? ⟨w'.heap.size,1,none⟩=some (.int .i64 xk.lo)∧W5.cell? ⟨w'.heap.size,2,none⟩=some (.int .i64 xk.hi):=⟨cell_of t5 0,cell_of t5 1,cell_of t5 2⟩;have z5:W5.cell? ⟨w2.heap.size,3,none⟩=some (.slice (some ⟨g,o0,none⟩) n cA):=(dm (a:=⟨w2.heap.size,3,none⟩) (o5 w2.heap.size (by have :=HV.out.2.2.1;omega))).trans z3;have H6:=dw (aM g5 (aM a5 b5));clear hW5 g5 a5 b5 o5 t5 n0 n1 n2 l0 l1 l2 fz4 z3;go_wp2;go_roundw
     case rel=>
      obtain ⟨f1,f2⟩:=HF.out.2 _ c5 H6.out.1 H6.out.2.1 H6.out.2.2 _ rfl;exact ⟨_,by omega,by go_num,f1,f2⟩
     case measure=>simp [intOf];omega
   ·obtain rfl:n=k:=by omega
    have hperm:=bO f b.dA n;have hnb:b.dA.length=n:=HV.out.2.2.2.2.1
    have Sy:fC wr wr.heap.size (bX b (swaps f b.dA n)) { v with ac:=A1,cc:=cA }:=by
     have h:=(HA.out wr bwr).more (B':=wr.heap.size) (by have :=bwr.size;omega);refine ⟨h.dJ,h.dz,h.steps,h.ins,h.outs, λhn=>?_,h.lh,h.lp,h.ls,by show (swaps f b.dA n).length<=cA;rw [hperm.length_eq];exact HV.out.2.2.2.2.2.2⟩;have hn':0<n:=by rw [<-hnb, <-hperm.length_eq];exact hn
     obtain ⟨e,hgV, -⟩:=HV.out.2.2.2.1 hn';obtain ⟨cs,hc1,hc2⟩:=hcs hn';exact ⟨g,o0,e,(aI.1 hc1).1, λi j hi hj=>cell_of hc1 _ (by rw [HV.out.2.2.2.2.2.1,Nat.zero_add];exact hc2 i j hi hj)⟩
    have hlo:(bX b (swaps f b.dA n)).dA.length=n:=by show (swaps f b.dA n).length=n;rw [hperm.length_eq,hnb]
    have hsO:(bX b (swaps f b.dA n)).small:=⟨hs.dJ,hs.dz,hs.steps,by rw [hlo];omega,hs.ins,hs.outs⟩;have HO:=dw (aM Sy (aM hlo (aM hsO (aM (aw9 hperm HX.out) (aM (ay9 hperm) (aM (az0 hperm) (aM bwr c9)))))));obtain ⟨f0,f1,f2,f3⟩:=al8 (HC.out.1 wr bwr);clear hgr hcs c9 bwr Sy hlo hsO hperm;rw [hnb] at f3;go_wp2;refine (Lo.Kg (b:=b) (v:=v) (by unfold dY;rw [hnb]) (HA.out wr HO.out.2.2.2.2.2.2.1) (by have :=HO.out.2.2.2.2.2.2.1.size;omega) hs HX.out).mono ?_
    rintro e w3' ⟨b3,A3,m3,c3,z3,rfl,hm3,hz3,hr3⟩;obtain ⟨y0,y1,y2,y3⟩:=al8 ((b3.block w2.heap.size (aI.1 HO.out.2.2.2.2.2.2.2).1).trans HO.out.2.2.2.2.2.2.2);have H3:=dw (aM b3 (aM hm3 (aM hz3 hr3)));clear f0 f1 f2 f3 b3 hm3 hz3 hr3;go_wp2;refine (Lo.Kg (b:=bX b (swaps f b.dA n)) (v:={ v with ac:=A1,cc:=cA }) (by unfold dY;rw [HO.out.2.1];rfl) (HO.out.1.keep λd o h=>dH H3.out.1 d o h) H3.out.1.size HO.out.2.2.1 HO.out.2.2.2.1).mono ?_
    rintro e w4 ⟨b4,A4,m4,c4,z4,rfl,hm4,hz4,hr4⟩;have b3:=H3.out.1;have hm3:=H3.out.2.1;have hz3:=H3.out.2.2.1;have hr3:=H3.out.2.2.2;rw [HO.out.2.2.2.2.1] at hm4 hz4 hr4;rw [HO.out.2.2.2.2.2.1] at hr4;obtain rfl:m4=m3:=by rw [hm4,hm3];rfl
    obtain rfl:z4=z3:=by rw [hz4,hz3]
    have b34:Below wr.heap.size wr w4:=b3.trans (b4.mono b3.size);have bY4:Below Y.heap.size Y w4:=HO.out.2.2.2.2.2.2.1.trans (b34.mono HO.out.2.2.2.2.2.2.1.size);have aA6:m4<=64:=by have :=hs.dz;rw [hm3];split<;>omega
    have d1:((z4:Int) !=z4)=false:=by simp
    have d2:((m4:Int) !=(m4:Int))=false:=by simp
    have H4:=dw (aM bY4 (aM hm3 (aM hz3 (aM (λh=>(hr3 h).below b4) hr4))));clear hm4 hz4 hm3 hz3 hr3 hr4 b3 b4 b34 bY4 y0 y1 y2 y3 HO HV H3;go_wp2
    go_loopw [17] (λi wr=>∃k:Nat,k<=m4∧i= .int .i64 (k:Int)∧Below w4.heap.size w4 wr) (λi _=>m4 - (intOf i).toNat)
    case atStart=>exact ⟨0,bg _,rfl,di _ _⟩
    case round=>
     obtain ⟨k,hk,rfl,hbr⟩:=hrel
     by_cases hlt:k<m4
     ·have hlt':(k:Int)<(m4:Int):=by omega
      have hh:qR b=true:=bn λh=>by have :=H4.out.2.1;rw [aa h] at this;omega
      obtain ⟨b1,o1,rfl,hb1,hc1⟩:=((H4.out.2.2.2.1 hh).keep λb o h=>dH hbr b o (by omega)) (by omega);obtain ⟨b2,o2,rfl,hb2,hc2⟩:=((H4.out.2.2.2.2 hh).keep λb o h=>dH hbr b o (by omega)) (by omega);have r1:=hc1 k 0 hlt (by omega);have r1':=hc1 k 1 hlt (by omega);have r2:=hc2 k 0 hlt (by omega);have r2':=hc2 k 1 hlt (by omega);have HB:=dw hbr;clear hc1 hc2 hbr;simp only [aH, <-Nat.add_assoc] at r1 r2 r1' r2';generalize ((p8 b)[2*k]?).getD 0=x0 at r1 r2;generalize ((p8 b)[2*k+1]?).getD 0=x1 at r1' r2';go_wp2
      go_region
      all_goals go_wp2
      go_roundw
      case rel=>exact ⟨k+1,by omega,by go_num,HB.out.drew⟩
      case measure=>simp [intOf];omega
     ·obtain rfl:m4=k:=by omega
      have bW:Below Y.heap.size Y wr:=H4.out.1.trans (hbr.mono H4.out.1.size);obtain ⟨f0,f1,f2,f3⟩:=al8 (HC.out.1 wr bW);obtain ⟨x0,x1,x2⟩:wr.cell? ⟨w.heap.size+1,0,none⟩=some (.int .i64 x.pile)∧wr.cell? ⟨w.heap.size+1,1,none⟩=some (.int .i64 x.lo)∧wr.cell? ⟨w.heap.size+1,2,none⟩=some (.int .i64 x.hi):=⟨cell_of (HC.out.2 wr bW) 0,cell_of (HC.out.2 wr bW) 1,cell_of (HC.out.2 wr bW) 2⟩;rw [hnb] at f3;have HW:=dw (aM bW hbr);obtain ⟨ok,hok⟩:∃ok,decide (b.dA.length+1<=10)=ok:=⟨_,rfl⟩;have hl1:=hl.1;have hl2:=hl.2;clear bW hbr;go_wp2;refine (Lo.ax5 (b:=b) (v:=v) (B:=B) (by unfold dY;rw [hnb]) (HA.out wr HW.out.1) (by have :=HW.out.1.size;omega) hs x).mono ?_
      rintro e w5 ⟨g2,q2,rfl,hg1,hbk,hb5⟩;rw [hok];unfold dY
      have hg2:g2<w5.heap.size:=by
       obtain ⟨bb,off,e,h1, -⟩:=(hbk w5 (λ_ _=>rfl) (aJ _)).dA (by show 0<(b.dA++ [_]).length;simp);cases e;exact h1
      obtain ⟨W6,Z9⟩:∃W6,w5.alloc (.cells (lN (bM b x) { v with ac:=some ⟨g2,0,none⟩,cc:=q2 }) 26)=W6:=⟨_,rfl⟩;have s6:W6.heap.size=w5.heap.size+1:=by rw [<-Z9];simp
      have b6:Below Y.heap.size Y W6:=by
       rw [<-Z9];exact (HW.out.1.trans (hb5.mono HW.out.1.size)).alloc (HW.out.1.trans (hb5.mono HW.out.1.size)).size _
      have b46:Below w4.heap.size w4 W6:=by
       rw [<-Z9];exact (HW.out.2.trans (hb5.mono HW.out.2.size)).alloc (HW.out.2.trans (hb5.mono HW.out.2.size)).size _
      have o6:∀d,d<w5.heap.size->W6.heap[d]?=w5.heap[d]?:= λd hd=>by rw [<-Z9];exact cZ _ _ _ hd
      have p6:W6.heap[w5.heap.size]?=some (.cells (lN (bM b x) { v with ac:=some ⟨g2,0,none⟩,cc:=q2 }) 26):=Z9 ▸ cK _ _
      have hwB:B<w5.heap.size:=by have :=HW.out.1.size;have :=hb5.size;omega
      have hS:∀X,Below W6.heap.size W6 X->fC X X.heap.size (bM b x) { v with ac:=some ⟨g2,0,none⟩,cc:=q2 }:= λX hX=>hbk X (λd hd=>(hX.block d (by omega)).trans (o6 d (by omega))) (by have :=hX.size;omega)
      have hPb:∀X,Below W6.heap.size W6 X->X.heap[w5.heap.size]?=some (.cells (lN (bM b x) { v with ac:=some ⟨g2,0,none⟩,cc:=q2 }) 26):= λX hX=>(hX.block _ (by omega)).trans p6
      have hsS:b.dA.length+1<=10->(bM b x).small:= λh=>⟨hs.dJ,hs.dz,hs.steps,by show (b.dA++ [_]).length<=64;simp;omega,hs.ins,hs.outs⟩
      have H6:=dw (aM hS (aM hPb (aM b6 (aM hsS (aM Z9 b46)))));clear hg1 hbk hb5 Z9 b6 b46 o6 p6 hS hPb hsS f0 f1 f2 f3 x0 x1 x2;cases ok with
      |false=>
       go_wp2;refine (H5.out _).mono ?_
       rintro e w99 ⟨rfl,rfl⟩;go_wp2;go_ret;rfl
      |true=>
       have hlen:b.dA.length+1<=10:=of_decide_eq_true hok;go_wp2;have e6:=H6.out.2.2.2.2.1;unfold lN at e6;rw [e6];clear e6;refine (Lo.YR (b:=bM b x) (v:={ v with ac:=some ⟨g2,0,none⟩,cc:=q2 }) rfl (H6.out.1 W6 (di _ _)) (aJ _) (H6.out.2.2.2.1 hlen) HBC.out).mono ?_
       rintro e w7 ⟨rfl,b7⟩;have HB7:=dw b7;obtain ⟨f0,f1,f2,f3⟩:=al8 (H6.out.2.1 w7 b7);clear b7;generalize hcx:fG (bM b x)=cx
       by_cases z:cx=0
       case neg=>
        clear hcx;go_wp2;refine (H5.out _).mono ?_
        rintro e w99 ⟨rfl,rfl⟩;go_wp2;go_ret;rfl
       subst z;have WV:=dw hcx;clear hcx;go_wp2;refine (Lo.Kg (b:=bM b x) (v:={ v with ac:=some ⟨g2,0,none⟩,cc:=q2 }) rfl (H6.out.1 w7 HB7.out) (aJ _) (H6.out.2.2.2.1 hlen) WV.out).mono ?_
       rintro e w8 ⟨b8,A5,m5,c5,z5,rfl,hm5,hz5,hr5⟩;have H8:=dw (aM (HB7.out.trans (b8.mono HB7.out.size)) (aM hm5 (aM hz5 (aM hr5 (aM b8 (H6.out.2.2.2.2.2.trans ((HB7.out.trans (b8.mono HB7.out.size)).mono H6.out.2.2.2.2.2.size)))))));clear b8 hm5 hz5 hr5 f0 f1 f2 f3
       by_cases hh:qR b=true
       case neg=>
        have hh2:¬qR (bM b x)=true:= λh=>hh (ax6 h)
        obtain rfl:z4=9:=by rw [H4.out.2.2.1,aa hh]
        obtain rfl:z5=9:=by rw [H8.out.2.2.1,aa hh2]
        clear hh hh2;go_wp2;refine (H5.out _).mono ?_
        rintro e w99 ⟨rfl,rfl⟩;go_wp2;go_ret;rfl
       obtain rfl:z4=0:=by rw [H4.out.2.2.1,aj hh]
       by_cases hh2:qR (bM b x)=true
       case neg=>
        obtain rfl:z5=9:=by rw [H8.out.2.2.1,aa hh2]
        clear hh hh2;go_wp2;refine (H5.out _).mono ?_
        rintro e w99 ⟨rfl,rfl⟩;go_wp2;go_ret;rfl
       obtain rfl:z5=0:=by rw [H8.out.2.2.1,aj hh2]
       have hm4:m4=b.dz.length:=by rw [H4.out.2.1,aj hh]
       obtain rfl:m5=m4:=by rw [H8.out.2.1,aj hh2,hm4];rfl
       have bY8:Below Y.heap.size Y w8:=H6.out.2.2.1.trans (H8.out.1.mono H6.out.2.2.1.size);have HH:=dw (aM hh (aM hh2 (aM hm4 bY8)));obtain ⟨f0,f1,f2,f3⟩:=al8 (HC.out.1 w8 bY8);rw [hnb] at f3;clear hh hh2 hm4 bY8;go_wp2;refine (Lo.aw3 (b:=b) (v:=v) (by unfold dY;rw [hnb]) (HA.out w8 HH.out.2.2.2) (by have :=HH.out.2.2.2.size;omega) hs HX.out HH.out.1).mono ?_
       rintro e w9 ⟨b9,A6,c6,rfl,hr6⟩;have b69:Below W6.heap.size W6 w9:=H8.out.1.trans (b9.mono H8.out.1.size);have H9:=dw (aM b9 (aM hr6 b69));obtain ⟨f0',f1',f2',f3'⟩:=al8 (H6.out.2.1 w9 b69);clear b9 hr6 b69 f0 f1 f2 f3;go_wp2;refine (Lo.aw3 (b:=bM b x) (v:={ v with ac:=some ⟨g2,0,none⟩,cc:=q2 }) rfl (H6.out.1 w9 H9.out.2.2) (aJ _) (H6.out.2.2.2.1 hlen) WV.out HH.out.2.1).mono ?_
       rintro e w10 ⟨b10,A7,c7,rfl,hr7⟩;have b8A:Below w8.heap.size w8 w10:=H9.out.1.trans (b10.mono H9.out.1.size);have bYA:Below Y.heap.size Y w10:=HH.out.2.2.2.trans (b8A.mono HH.out.2.2.2.size);have H10:=dw (aM b10 (aM hr7 (aM b8A bYA)));obtain ⟨f0,f1,f2,f3⟩:=al8 (HC.out.1 w10 bYA);rw [hnb] at f3;clear b10 hr7 b8A bYA f0' f1' f2' f3';go_wp2;refine (Lo.ax2 (b:=b) (v:=v) (by unfold dY;rw [hnb]) (HA.out w10 H10.out.2.2.2) (by have :=H10.out.2.2.2.size;omega) hs HX.out HH.out.1 hl).mono ?_
       rintro e w11 ⟨b11,A8,c8,rfl,hr8⟩;have b6B:Below W6.heap.size W6 w11:=H8.out.1.trans ((H10.out.2.2.1.trans (b11.mono H10.out.2.2.1.size)).mono H8.out.1.size);have H11:=dw (aM b11 (aM hr8 b6B));obtain ⟨f0',f1',f2',f3'⟩:=al8 (H6.out.2.1 w11 b6B);clear b11 hr8 b6B f0 f1 f2 f3;go_wp2;refine (Lo.ax2 (b:=bM b x) (v:={ v with ac:=some ⟨g2,0,none⟩,cc:=q2 }) rfl (H6.out.1 w11 H11.out.2.2) (aJ _) (H6.out.2.2.2.1 hlen) WV.out HH.out.2.1 hl).mono ?_
       rintro e w12 ⟨b12,A9,c9,rfl,hr9⟩;have H12:=dw (aM b12 hr9);rw [show (bM b x).dJ.length=b.dJ.length from rfl,show (bM b x).steps.length=b.steps.length from rfl];have d3:((b.dJ.length:Int) !=(b.dJ.length:Int))=false:=by simp
       have d4:((b.steps.length:Int) !=(b.steps.length:Int))=false:=by simp
       clear b12 hr9 f0' f1' f2' f3';go_wp2
       go_loopw [26] (λi wr=>∃k:Nat,k<=b.dJ.length∧i= .int .i64 (k:Int)∧Below w12.heap.size w12 wr) (λi _=>b.dJ.length - (intOf i).toNat)
       case atStart=>exact ⟨0,bg _,rfl,di _ _⟩
       case round=>
        obtain ⟨k,hk,rfl,hbr⟩:=hrel;have hh4:b.dJ.length<=4:=Gt HX.out
        by_cases hlt:k<b.dJ.length
        ·have hlt':(k:Int)<(b.dJ.length:Int):=by omega
         have bB:Below w11.heap.size w11 wr:=H12.out.1.trans (hbr.mono H12.out.1.size);obtain ⟨b1,o1,rfl,hb1,hc1⟩:=(H11.out.2.1.keep λb o h=>dH bB b o h) (by rw [uV];omega);obtain ⟨b2,o2,rfl,hb2,hc2⟩:=(H12.out.2.keep λb o h=>dH hbr b o h) (by rw [uV];show 0<b.dJ.length;omega);have r1:=hc1 k 0 (by rw [uV];omega) (by omega);have r2:=hc2 k 0 (by rw [uV];exact hlt) (by omega);have hd:=ax8 x limit (H6.out.2.2.2.1 hlen) WV.out HH.out.2.1 hlt;have HB:=dw hbr;clear hc1 hc2 hbr bB;simp only [Nat.mul_one,aH] at r1 r2;generalize ((zT b limit)[k]?).getD 0=z at r1 hd;generalize ((zT (bM b x) limit)[k]?).getD 0=y at r2 hd
         by_cases hq:z=0
         ·subst hq;clear hd;go_wp2
          go_quiet (fail)
          go_wp2;go_roundw
          case rel=>exact ⟨k+1,by omega,by go_num,below_drewN HB.out _⟩
          case measure=>simp [intOf];omega
         ·have hy:=hd hq;subst hy;have d5:(y !=0)=true:=by simpa using hq
          have d6:(y !=y)=false:=by simp
          clear hd;go_wp2
          go_quiet (fail)
          go_wp2;go_roundw
          case rel=>exact ⟨k+1,by omega,by go_num,below_drewN HB.out _⟩
          case measure=>simp [intOf];omega
        ·have hkk:¬(k:Int)<(b.dJ.length:Int):=by omega
         have bC:Below w10.heap.size w10 wr:=H11.out.1.trans ((H12.out.1.trans (hbr.mono H12.out.1.size)).mono H11.out.1.size);have b8C:Below w8.heap.size w8 wr:=H10.out.2.2.1.trans (bC.mono H10.out.2.2.1.size)
         have b4C:Below w4.heap.size w4 wr:=by
          have b46:Below w4.heap.size w4 w8:=H8.out.2.2.2.2.2;exact b46.trans (b8C.mono b46.size)
         go_wp2;refine (Lo.aw2 (l:=p8 (bM b x)) (r:=p8 b) ((H8.out.2.2.2.1 HH.out.2.1).below b8C) ((H4.out.2.2.2.1 HH.out.1).below b4C) aA6 (λi hi=>ax7 x (by rw [<-HH.out.2.2.1];exact hi))).mono ?_
         rintro e w13 ⟨rfl,b13⟩;have bD:Below w10.heap.size w10 w13:=bC.trans (b13.mono bC.size);have q1:jR w13 A7 b.steps.length (yY (bM b x)):=H10.out.2.1.below bD;have q2:jR w13 A6 b.steps.length (yY b):=H9.out.2.1.below (H10.out.1.trans (bD.mono H10.out.1.size));go_wp2;refine (Lo.aw2 q1 q2 hs.steps (λi hi=>ax1 x hi)).mono ?_
         rintro e w14 ⟨rfl,b14⟩;go_wp2;refine (H5.out _).mono ?_
         rintro e w99 ⟨rfl,rfl⟩;go_wp2;go_ret;rfl
end Go.Proofs
