/- Part 7. -/
import Derived.Test.YtnemnkmojiljmaaF06
set_option maxRecDepth 100000
set_option maxHeartbeats 8000000
set_option linter.all false
namespace Go.Proofs
open Go Go.RowKit Go.Maps
variable [Lo.St]
theorem Lo.Gg {w:World} {B:Nat} {b:dz} {v:iQ} (hb:eT w B b v) (hB:B<=w.heap.size) (hg:b.good) (hand:Int) (hh: -1<=hand∧hand<=64):
 Calls Lo.prog 29 #[dN b v,.int .i64 hand] w (Vs w b hand):=by
 obtain ⟨U,U2,U3,U4,U5,U6⟩:=@Lo.facts inferInstance;have C:=(@Lo.call53 inferInstance);have C2:=(@Lo.call52 inferInstance);have hmm:=@run_makeMap Lo.prog;obtain ⟨i0,hi,hz0,hz1,hz2⟩:=info_parts Lo.Vq;have hn8:=hg.n8;have ae4:=hg.p12;have hsc:=hg.bT;obtain ⟨h1,h2,h3,h4,h5,h6,_⟩:=hb;unfold dN;generalize v.ah=ah at h1 ⊢;generalize v.ch=ch;generalize v.ap=ap at h2 ⊢;generalize v.cp=cp;generalize v.jU=jU at h3 ⊢;generalize v.cs=cs;generalize v.ac=ac at h6 ⊢;generalize v.cc=cc;generalize v.sv=sv at h3 h4 h5;go_enter Lo.func29,Try.ntmps29;go_wp2;generalize Yv:((((w.alloc (.cells #[.slice ah b.hands.length ch,.slice ap b.bP.length cp,.slice jU b.steps.length cs,.slice ac b.bT.length cc] 43)).alloc (.cells #[.slice none 0 0,.int .i64 (b.steps.length:Int),.int .i64 ((b.steps.length:Int)+1)] 96)).alloc (.map #[] 0)).alloc (.map #[] 0))=W4;have sz4:W4.heap.size=w.heap.size+4:=by subst Yv;simp
 have LM:Below w.heap.size w W4:=by
  subst Yv;exact (((((Below.refl _ _).alloc (aj _) _).alloc (by simp) _).alloc (by simp;omega) _).alloc (by simp;omega) _)
 have mk4:mI W4 (w.heap.size+1+1) 0 []:=by
  subst Yv;have :=(World.ownsMap_made (H:=Unit) ((w.alloc (.cells #[.slice ah b.hands.length ch,.slice ap b.bP.length cp,.slice jU b.steps.length cs,.slice ac b.bT.length cc] 43)).alloc (.cells #[.slice none 0 0,.int .i64 (b.steps.length:Int),.int .i64 ((b.steps.length:Int)+1)] 96)) Lo.prog 3 (plainElem Lo.prog 3)).alloc (.map #[] 0);simpa [mI,Ac] using this
 have us4:mI W4 (w.heap.size+1+1+1) 0 []:=by
  subst Yv;have :=World.ownsMap_made (H:=Unit) (((w.alloc (.cells #[.slice ah b.hands.length ch,.slice ap b.bP.length cp,.slice jU b.steps.length cs,.slice ac b.bT.length cc] 43)).alloc (.cells #[.slice none 0 0,.int .i64 (b.steps.length:Int),.int .i64 ((b.steps.length:Int)+1)] 96)).alloc (.map #[] 0)) Lo.prog 3 (plainElem Lo.prog 3);simpa [mI,Ac] using this
 have bk4:∀j:Nat,W4.cell? ⟨w.heap.size,j,none⟩=(#[Value.slice ah b.hands.length ch,.slice ap b.bP.length cp,.slice jU b.steps.length cs,.slice ac b.bT.length cc]:Array Value)[j]?:=by
  subst Yv;intro j;rw [World.cell?_alloc_past _ _ _ (by simp;omega),World.cell?_alloc_past _ _ _ (by simp;omega),World.cell?_alloc_past _ _ _ (by simp),World.cell?_alloc_at _ _ _ _ rfl]
 have bw4:W4.heap[w.heap.size+1]?=some (.cells #[.slice none 0 0,.int .i64 (b.steps.length:Int),.int .i64 ((b.steps.length:Int)+1)] 96):=by
  subst Yv;rw [Below.heap_alloc _ _ _ (by simp),Below.heap_alloc _ _ _ (by simp)];have :=heap_alloc_new (w.alloc (.cells #[.slice ah b.hands.length ch,.slice ap b.bP.length cp,.slice jU b.steps.length cs,.slice ac b.bT.length cc] 43)) (.cells #[.slice none 0 0,.int .i64 (b.steps.length:Int),.int .i64 ((b.steps.length:Int)+1)] 96);simpa using this
 have hkeep:∀wr,Below (w.heap.size+1) W4 wr->∀b o,b<B->wr.cell? ⟨b,o,none⟩=w.cell? ⟨b,o,none⟩:= λwr hx b o hb=>(bV hx b o (by omega)).trans (bV LM b o (by omega))
 clear Yv;have HK:=Lib.hid hkeep;have x8:=Lib.hid bk4;have Xx:=Lib.hid bw4;have yC:=Lib.hid LM;clear hkeep bk4 bw4 LM
 go_loopw [37] (λi wr=>∃k:Nat,k<=b.steps.length∧i= .int .i64 (k:Int)∧mI wr (w.heap.size+1+1) (64*k) (eu dK.outs b.steps k)∧mI wr (w.heap.size+1+1+1) (64*k) (eu dK.ins b.steps k)∧Below (w.heap.size+2) W4 wr) (λi _=>b.steps.length - (intOf i).toNat)
 case atStart=>exact ⟨0,aL _,rfl,mk4,us4,Below.refl _ _⟩
 case round=>
  obtain ⟨k,hk,rfl,hmk,Rz,hbl⟩:=hrel;clear mk4 us4
  by_cases hlt:k<b.steps.length
  ·have hlt':(k:Int)<(b.steps.length:Int):=by omega
   have hkp:=HK.out wr (hbl.mono (by omega));obtain ⟨bb,off,rfl,hbb,hc⟩:=h3.keep hkp (by omega);obtain ⟨k0,k1,k2,k3,k4,k5,k6⟩:=Ir hc hlt;have hsi:=hg.ins _ (aI hlt);have hso:=hg.outs _ (aI hlt);have hki:=hg.ki _ (aI hlt);have hko:=hg.ko _ (aI hlt);have Yw:=h4 k _ (ax hlt);have hro:=h5 k _ (ax hlt);have pmi:=Cu dK.ins b.steps k hlt;have pmo:=Cu dK.outs b.steps k hlt;generalize b.steps[k]=s at *;generalize s.ins=li at *;generalize s.outs=lo at *;generalize (sv k).a1=a1 at *;generalize (sv k).a2=a2 at *;have HKP:=Lib.hid hkp;clear hkp;have sz:=hbl.size;have HM:=Lib.hid hmk;have HU:=Lib.hid Rz;have Bw:=Lib.hid hbl;clear hmk Rz hbl hc h3 h4 h5 h6 h1 h2;go_wp2;generalize uQ:wr.alloc (.cells #[.int .i64 s.hand,.slice a1 li.length (sv k).c1,.slice a2 lo.length (sv k).c2,.int .i64 s.g0,.int .i64 s.g1,.int .i64 s.l0,.int .i64 s.l1] 69)=NL;have sz1:NL.heap.size=wr.heap.size+1:=by subst uQ;simp
   have c2:NL.cell? ⟨wr.heap.size,2,none⟩=some (.slice a2 lo.length (sv k).c2):=by subst uQ;rw [World.cell?_alloc_at _ _ _ _ rfl];rfl
   have hm1:mI NL (w.heap.size+1+1) (64*k) (eu dK.outs b.steps k):=by subst uQ;exact HM.out.alloc _
   have hu1:mI NL (w.heap.size+1+1+1) (64*k) (eu dK.ins b.steps k):=by subst uQ;exact HU.out.alloc _
   have hb1:Below (w.heap.size+2) W4 NL:=by subst uQ;exact Bw.out.alloc (by omega) _
   clear uQ HM HU Bw k0 k1 k2 k3 k4 k5 k6;generalize wr.heap.size=n1 at *;have C2':=Lib.hid c2;have HM:=Lib.hid hm1;have HB1:=Lib.hid hb1;clear c2 hm1 hb1
   go_loopw [45] (λi wq=>∃j:Nat,j<=li.length∧i= .int .i64 (j:Int)∧mI wq (w.heap.size+1+1+1) (64*k+j) (rE dK.ins b.steps k li j)∧NL.grownBy wq (some (w.heap.size+1+1+1))) (λi _=>li.length - (intOf i).toNat)
   case atStart=>exact ⟨0,aL _,rfl,by rw [Af];exact hu1,su _ _⟩
   case round=>
    obtain ⟨j,hj,rfl,hu,hgr⟩:=hrel;clear hu1
    by_cases hjl:j<li.length
    ·have Rp:(j:Int)<(li.length:Int):=by omega
     have hbq:Below (w.heap.size+2) W4 wr:=HB1.out.grown hgr (by omega) (λj hj=>by simp at hj;omega);obtain ⟨bc,of,rfl,hbc,hcc⟩:=Yw.keep (HK.out wr (hbq.mono (by omega))) (by omega);have r1:=DY hcc hjl;have hkk:=hki _ (aI hjl);have hps:=Ah dK.ins b.steps k li j hjl;generalize li[j]=p at *;have hkey:keyOf Lo.prog 3 (.int .i64 p)=some (kI p):=keyOf_int_mk Lo.Iy (wfI hkk.1 hkk.2);have HG:=Lib.hid hgr;have HP:=Lib.hid hps;clear hcc hbq hgr hps Yw
     go_wp2_with (first
      |(at_mapUpdate;refine wpList_mapUpdate_own _ rfl _ _ _ 106 rfl 3 3 Lo.Rw Lo.D5 _ (w.heap.size+1+1+1) _ _ rfl hu (by unfold maxLen;omega) _ _ _ rfl rfl hkey _ [] (plainElem_int Lo.Iy (wfI (p:=(k:Int)) (by omega) (by omega))) ?_;intro w1 hown1 hgrow1)
      |go_in)
     have HO:=Lib.hid hown1;have Yx:=Lib.hid hgrow1;clear hown1 hgrow1 hu;go_roundw
     case rel=>exact ⟨j+1,by omega,by go_num,by rw [HP.out];exact Xw HO.out,HG.out.trans Yx.out⟩
     case measure=>simp [intOf];omega
    ·obtain rfl:j=li.length:=by omega
     have c2:wr.cell? ⟨n1,2,none⟩=some (.slice a2 lo.length (sv k).c2):=by
      rw [World.cell?_of_block (hgr.block n1 (by omega) (by simp;omega))];exact C2'.out
     have hm1:mI wr (w.heap.size+1+1) (64*k) (eu dK.outs b.steps k):=HM.out.kept hgr (by simp);have hb1:Below (w.heap.size+2) W4 wr:=HB1.out.grown hgr (by omega) (λj hj=>by simp at hj;omega);rw [Cv, <-pmi] at hu;have HU:=Lib.hid (mI.up hu (show 64*k+li.length<=64*(k+1) by omega));have HB2:=Lib.hid hb1;have HM2:=Lib.hid hm1;have szr:=hb1.size;clear hu hgr HM HB1 hb1 hm1 C2' pmi Yw;go_wp2;generalize wr=wr2 at *
     go_loopw [56] (λi wr=>∃j:Nat,j<=lo.length∧i= .int .i64 (j:Int)∧mI wr (w.heap.size+1+1) (64*k+j) (rE dK.outs b.steps k lo j)∧wr2.grownBy wr (some (w.heap.size+1+1))) (λi _=>lo.length - (intOf i).toNat)
     case atStart=>exact ⟨0,aL _,rfl,by rw [Af];exact HM2.out,su _ _⟩
     case round=>
      obtain ⟨j,hj,rfl,hm,hgr⟩:=hrel;clear HM2
      by_cases hjl:j<lo.length
      ·have Rp:(j:Int)<(lo.length:Int):=by omega
       have hbq:Below (w.heap.size+2) W4 wr:=HB2.out.grown hgr (by omega) (λj hj=>by simp at hj;omega);obtain ⟨bc,of,rfl,hbc,hcc⟩:=hro.keep (HK.out wr (hbq.mono (by omega))) (by omega);have r1:=DY hcc hjl;have hkk:=hko _ (aI hjl);have hps:=Ah dK.outs b.steps k lo j hjl;generalize lo[j]=p at *;have hkey:keyOf Lo.prog 3 (.int .i64 p)=some (kI p):=keyOf_int_mk Lo.Iy (wfI hkk.1 hkk.2);have HG:=Lib.hid hgr;have HP:=Lib.hid hps;clear hcc hbq hgr hps hro
       go_wp2_with (first
        |(at_mapUpdate;refine wpList_mapUpdate_own _ rfl _ _ _ 106 rfl 3 3 Lo.Rw Lo.D5 _ (w.heap.size+1+1) _ _ rfl hm (by unfold maxLen;omega) _ _ _ rfl rfl hkey _ [] (plainElem_int Lo.Iy (wfI (p:=(k:Int)) (by omega) (by omega))) ?_;intro w1 hown1 hgrow1)
        |go_in)
       have HO:=Lib.hid hown1;have Yx:=Lib.hid hgrow1;clear hown1 hgrow1 hm;go_roundw
       case rel=>exact ⟨j+1,by omega,by go_num,by rw [HP.out];exact Xw HO.out,HG.out.trans Yx.out⟩
       case measure=>simp [intOf];omega
      ·obtain rfl:j=lo.length:=by omega
       have hu1:mI wr (w.heap.size+1+1+1) (64*(k+1)) (eu dK.ins b.steps (k+1)):=HU.out.kept hgr (by simp);have hb1:Below (w.heap.size+2) W4 wr:=HB2.out.grown hgr (by omega) (λj hj=>by simp at hj;omega);rw [Cv, <-pmo] at hm;have HMM:=Lib.hid (mI.up hm (show 64*k+lo.length<=64*(k+1) by omega));have HU2:=Lib.hid hu1;have HB3:=Lib.hid hb1;clear hm hgr HU HB2 hb1 hu1 pmo hro;go_wp2;go_roundw
       case rel=>exact ⟨k+1,by omega,by go_num,HMM.out,HU2.out,HB3.out⟩
       case measure=>simp [intOf];omega
  ·obtain rfl:k=b.steps.length:=by omega
   have c01:wr.cell? ⟨w.heap.size,1,none⟩=some (.slice ap b.bP.length cp):=(bV hbl _ _ (by omega)).trans (x8.out 1);have c03:wr.cell? ⟨w.heap.size,3,none⟩=some (.slice ac b.bT.length cc):=(bV hbl _ _ (by omega)).trans (x8.out 3);have c02:wr.cell? ⟨w.heap.size,2,none⟩=some (.slice jU b.steps.length cs):=(bV hbl _ _ (by omega)).trans (x8.out 2);have hbw:wr.heap[w.heap.size+1]?=some (.cells #[.slice none 0 0,.int .i64 (b.steps.length:Int),.int .i64 ((b.steps.length:Int)+1)] 96):=(hbl.block _ (by omega)).trans Xx.out
   go_wp2;have mk5:mI wr (w.heap.size+1+1) 1024 (eu dK.outs b.steps b.steps.length):=mI.up hmk (by omega);have us5:mI wr (w.heap.size+1+1+1) 1024 (eu dK.ins b.steps b.steps.length):=mI.up Rz (by omega);have hb5:Below (w.heap.size+1) W4 wr:=hbl.mono (by omega);have sz5:=hbl.size;have bk5:∀wq,Below (w.heap.size+1) W4 wq->∀j:Nat,wq.cell? ⟨w.heap.size,j,none⟩=(#[Value.slice ah b.hands.length ch,.slice ap b.bP.length cp,.slice jU b.steps.length cs,.slice ac b.bT.length cc]:Array Value)[j]?:= λwq hx j=>(bV hx _ _ (by omega)).trans (x8.out j)
   have FM:=Lib.hid bk5;have ae5:eB wr (w.heap.size+1) (w.heap.size+4) b.steps.length ((b.steps.length:Int)+1) (dA b 0) (.slice none 0 0):=⟨hbw,World.ownsRow_nil _ _ _ _,Par.dh.nil _⟩;clear hmk Rz hbl bk5 x8 Xx c01 c03 c02 hbw
   go_loopw [68] (λi wr=>∃k:Nat,∃v:Value,k<=b.bP.length∧i= .int .i64 (k:Int)∧eB wr (w.heap.size+1) (w.heap.size+4) b.steps.length ((b.steps.length:Int)+1) (dA b k) v∧mI wr (w.heap.size+1+1) 1024 (eu dK.outs b.steps b.steps.length)∧mI wr (w.heap.size+1+1+1) 1024 (eu dK.ins b.steps b.steps.length)∧Below (w.heap.size+1) W4 wr∧w.heap.size+4<=wr.heap.size) (λi _=>b.bP.length - (intOf i).toNat)
   case atStart=>exact ⟨0,_,aL _,rfl,ae5,mk5,us5,hb5,by omega⟩
   case round=>
    obtain ⟨k,v1,hk,rfl,uw,hmk,Rz,hbl,hsz⟩:=hrel;clear ae5 mk5 us5 hb5 sz5
    by_cases hlt:k<b.bP.length
    ·have hlt':(k:Int)<(b.bP.length:Int):=by omega
     have HW:=Lib.hid uw;have HM:=Lib.hid hmk;have HU:=Lib.hid Rz;have Bw:=Lib.hid hbl;have c03:∀o,(wr.alloc o).cell? ⟨w.heap.size,3,none⟩=some (.slice ac b.bT.length cc):= λo=>(World.cell?_alloc_past _ _ _ (by show w.heap.size<_;omega)).trans (FM.out wr hbl 3)
     clear uw hmk Rz hbl;go_wp2;generalize uQ:wr.alloc (.cells #[.int .i64 0,.int .i64 1000000] 108)=wr3;have sz3:wr3.heap.size=wr.heap.size+1:=by subst uQ;simp
     have hx3:wr3.heap[wr.heap.size]?=some (.cells #[.int .i64 0,.int .i64 1000000] 108):=by subst uQ;exact heap_alloc_new wr _
     have hg3:wr.grownBy wr3 none:=by subst uQ;exact World.grownBy_alloc wr _ none
     have hw3:eB wr3 (w.heap.size+1) (w.heap.size+4) b.steps.length ((b.steps.length:Int)+1) (dA b k) v1:=⟨(hg3.block _ (by omega) (by simp)).trans HW.out.blk,by subst uQ;exact HW.out.row.alloc _,by subst uQ;exact HW.out.pl.alloc _⟩;have hm3:mI wr3 (w.heap.size+1+1) 1024 (eu dK.outs b.steps b.steps.length):=HM.out.kept hg3 (by simp);have hu3:mI wr3 (w.heap.size+1+1+1) 1024 (eu dK.ins b.steps b.steps.length):=HU.out.kept hg3 (by simp);have hb3:Below (w.heap.size+1) W4 wr3:=Bw.out.grown hg3 (by omega) (λj hj=>by simp at hj);have hv1:=HW.out.row.lt;clear uQ HW HM HU Bw hg3 c03;generalize wr.heap.size=nx at *;have HW:=Lib.hid hw3;have HM:=Lib.hid hm3;have HU:=Lib.hid hu3;have Bw:=Lib.hid hb3;have HX:=Lib.hid hx3;have HV:=Lib.hid hv1;clear hw3 hm3 hu3 hb3 hx3 hv1
     go_loopw [75] (λi wr=>∃j:Nat,j<=b.bT.length∧i= .int .i64 (j:Int)∧wr.heap[nx]?=some (.cells #[.int .i64 (ku (b.bT.take j) k).1,.int .i64 (ku (b.bT.take j) k).2] 108)∧wr3.grownBy wr (some nx)) (λi _=>b.bT.length - (intOf i).toNat)
     case atStart=>exact ⟨0,aL _,rfl,HX.out,su _ _⟩
     case round=>
      obtain ⟨j,hj,rfl,hx,hgr⟩:=hrel;clear HX
      by_cases hjl:j<b.bT.length
      ·have Rp:(j:Int)<(b.bT.length:Int):=by omega
       have hbq:Below (w.heap.size+1) W4 wr:=Bw.out.grown hgr (by omega) (λj hj=>by simp at hj;omega);obtain ⟨bc,of,rfl,hbc,hcc⟩:=h6.keep (HK.out wr hbq) (by omega);obtain ⟨r0,r1,r2⟩:=JC hcc hjl;have hps:=ao1 b.bT k j hjl;generalize b.bT[j]=sc at *;generalize ku (b.bT.take j) k=x at *;have szr:=hgr.size;have HG:=Lib.hid hgr;have HP:=Lib.hid hps;have HX:=Lib.hid hx;have hxs:=LF hx;have HXS:=Lib.hid hxs;clear hcc hbq hgr hps hx hxs
       by_cases hp:sc.pile=k
       ·have hpd:(sc.pile==(k:Int))=true:=by simpa using hp
        go_wp2;generalize JI:wr.alloc (.cells #[.int .i64 (k:Int),.int .i64 sc.lo,.int .i64 sc.hi] 51)=wA;have szA:wA.heap.size=wr.heap.size+1:=by subst JI;simp
        have hgA:wr.grownBy wA none:=by subst JI;exact World.grownBy_alloc wr _ none
        have x0:wA.cell? ⟨nx,0,none⟩=some (.int .i64 x.1):=(World.cell?_of_block (hgA.block nx (by omega) (by simp))).trans HXS.out.1;have x1:wA.cell? ⟨nx,1,none⟩=some (.int .i64 x.2):=(World.cell?_of_block (hgA.block nx (by omega) (by simp))).trans HXS.out.2.1;have s1:wA.cell? ⟨wr.heap.size,1,none⟩=some (.int .i64 sc.lo):=by subst JI;rw [World.cell?_alloc_at _ _ _ _ rfl];rfl
        have s2:wA.cell? ⟨wr.heap.size,2,none⟩=some (.int .i64 sc.hi):=by subst JI;rw [World.cell?_alloc_at _ _ _ _ rfl];rfl
        have hAx:wA.heap[nx]?=some (.cells #[.int .i64 x.1,.int .i64 x.2] 108):=(hgA.block nx (by omega) (by simp)).trans HX.out
        obtain ⟨_,_,xf0,xf1⟩:=LF hAx;have HAX:=Lib.hid hAx;have HGA:=Lib.hid hgA;clear JI hAx hgA;generalize wr.heap.size=nr at *;apply JH (λw2=>wr3.grownBy w2 (some nx)∧w2.heap[nx]?=some (.cells #[.int .i64 (max x.1 sc.lo),.int .i64 (min x.2 sc.hi)] 108))
        case h1=>
         intro Q' hK
         go_region_with (first
          |(go_at_call 53
            refine (Lo.mX _ _ _).mono ?_
            rintro e w1 ⟨rfl,hb1⟩;have y0:=(bV hb1 nx 0 (by show nx<wA.heap.size;omega)).trans x0;have y1:=(bV hb1 nx 1 (by show nx<wA.heap.size;omega)).trans x1;have yf0:=(Dk hb1 nx 0 (by show nx<wA.heap.size;omega)).trans xf0;have yf1:=(Dk hb1 nx 1 (by show nx<wA.heap.size;omega)).trans xf1;have yz:wA.heap.size<=w1.heap.size:=hb1.size;have HY:=Lib.hid hb1;clear hb1)
          |(go_at_call 52
            refine (Lo.Q9 _ _ _ _ _).mono ?_
            rintro e w2 ⟨rfl,hb2⟩;have z0:=(bV hb2 nx 0 (by omega)).trans y0;have z1:=(bV hb2 nx 1 (by omega)).trans y1;have zf0:=(Dk hb2 nx 0 (by omega)).trans yf0;have zf1:=(Dk hb2 nx 1 (by omega)).trans yf1;have HZ:=Lib.hid hb2;clear hb2))
         all_goals
          have hx2:w2.heap[nx]?=some (.cells #[.int .i64 x.1,.int .i64 x.2] 108):=(HZ.out.block nx (by omega)).trans ((HY.out.block nx (by show nx<wA.heap.size;omega)).trans HAX.out)
          have hg2:wr3.grownBy w2 (some nx):=sj (sj (sj (sj HG.out HGA.out (by simp)) (LD wA none) (by simp)) (below_grown HY.out rfl none) (by simp)) (below_grown HZ.out rfl none) (by simp);exact hK _ ⟨(hg2.trans (mG _ _ _ _)).trans (mG _ _ _ _),Vr hx2⟩
        case h2=>
         rintro w2 ⟨hg2,hx2⟩;have Xy:=Lib.hid hx2;have HG2:=Lib.hid hg2;clear hx2 hg2 x0 x1 xf0 xf1 HXS;go_wp2;go_roundw
         case rel=>exact ⟨j+1,by omega,by go_num,by rw [HP.out];unfold bd1;rw [if_pos hp];exact Xy.out,HG2.out⟩
         case measure=>simp [intOf];omega
       ·have hpd:(sc.pile==(k:Int))=false:=by simpa using hp
        go_wp2;go_roundw
        case rel=>exact ⟨j+1,by omega,by go_num,by rw [HP.out];unfold bd1;rw [if_neg hp];exact (Below.heap_alloc _ _ _ (by omega)).trans HX.out,sj HG.out (World.grownBy_alloc _ _ (some nx)) (λj hj=>.inr (by simp at hj;simp [hj]))⟩
        case measure=>simp [intOf];omega
      ·obtain rfl:j=b.bT.length:=by omega
       rw [List.take_length] at hx;have hbq:Below (w.heap.size+1) W4 wr:=Bw.out.grown hgr (by omega) (λj hj=>by simp at hj;omega)
       have hvn:v1.ownBlock=none∨v1.ownBlock≠some nx:=by
        cases e:v1.ownBlock with
        |none=>exact .inl rfl
        |some g=>exact .inr (by have :=(HV.out g e).2;simp;omega)
       have hw4:eB wr (w.heap.size+1) (w.heap.size+4) b.steps.length ((b.steps.length:Int)+1) (dA b k) v1:=⟨(hgr.block _ (by omega) (by simp;omega)).trans HW.out.blk,HW.out.row.kept hgr hvn,HW.out.pl.keep λg hg=>hgr.block g (by have :=(HV.out g hg).2;omega) (λe=>by have :=(HV.out g hg).2;simp at e;omega)⟩;have hm4:mI wr (w.heap.size+1+1) 1024 (eu dK.outs b.steps b.steps.length):=HM.out.kept hgr (by simp;omega);have Yy:mI wr (w.heap.size+1+1+1) 1024 (eu dK.ins b.steps b.steps.length):=HU.out.kept hgr (by simp;omega);have szr:=hgr.size;have hkey:keyOf Lo.prog 3 (.int .i64 (k:Int))=some (kI k):=keyOf_int_mk Lo.Iy (wfI (by omega) (by omega));obtain ⟨cm,hlk,hcm,_⟩:=hm4.drew.lookup_int Lo.Rw Lo.D5 Lo.Iy (Lo.Rx _) hkey;rw [NH] at hcm;have hcm:vS b.steps k=cm:=Ru hcm;have hmb:=NI b.steps k;have hub:=Rv b.steps k;have hps:qN b k=⟨(ku b.bT k).1,(ku b.bT k).2,(vS b.steps k).toNat,((uu b.steps k).getD b.steps.length).toNat⟩:=rfl;rw [hcm] at hmb hps;generalize ku b.bT k=x at *;obtain ⟨x0,x1,_,_⟩:=LF hx;obtain ⟨v0,_,_,vf0,_,_⟩:=iK hw4.blk;have x0d:wr.drew.cell? ⟨nx,0,none⟩=some (.int .i64 x.1):=x0;have x1d:wr.drew.cell? ⟨nx,1,none⟩=some (.int .i64 x.2):=x1;have v0d:wr.drew.cell? ⟨w.heap.size+1,0,none⟩=some v1:=v0;have v0a:∀o,(wr.alloc o).cell? ⟨w.heap.size+1,0,none⟩=some v1:= λo=>(World.cell?_alloc_past _ _ _ (by show w.heap.size+1<wr.heap.size;omega)).trans v0
       have HPS:=Lib.hid hps;have Xz:=Lib.hid hw4;have HM4:=Lib.hid hm4;have HU4:=Lib.hid Yy;have RA:=Lib.hid hbq;have HUB:=Lib.hid hub;have HMB:=Lib.hid hmb;have hhas:=Rt (eu dK.ins b.steps b.steps.length) k;have Vt:=NH (eu dK.ins b.steps b.steps.length) k 0;have hlen:=gX b k;clear hx x0 x1 v0 hw4 hm4 hbq hgr HW HM HU Bw hps hub hmb hcm hvn;cases XA:uu b.steps k with
       |none=>
        have hd:Maps.has (Ac (eu dK.ins b.steps b.steps.length)) (kI k)=false:=by rw [hhas];unfold uu at XA;rw [XA];rfl
        clear hhas Vt
        go_wp2_with (first
         |(at_lookup;refine wpList_lookup_own_ok_int _ rfl _ _ 106 rfl 3 3 .i64 Lo.Rw Lo.D5 Lo.Iy (Lo.Rx _) (w.heap.size+1+1+1) _ _ rfl Yy _ _ rfl hkey ?_;intro c hat hwc;rw [hd];clear hat hwc)
         |go_in)
        have HLK:=Lib.hid hlk;have HU5:=Lib.hid Yy;have hsum:(dA b k).length+1<=64:=by omega
        rw [XA] at HPS HUB;have hpc:=D7 HPS.out HMB.out.1 HUB.out.1;have RB:=Lib.hid hpc;clear Yy hlk hd hkey hpc;have hlk2:=HLK.out;apply Cx (λg cap wx=>eB wx (w.heap.size+1) (w.heap.size+4) b.steps.length ((b.steps.length:Int)+1) (dA b (k+1)) (.slice (some ⟨g,0,none⟩) (k+1) cap)∧mI wx (w.heap.size+1+1) 1024 (eu dK.outs b.steps b.steps.length)∧mI wx (w.heap.size+1+1+1) 1024 (eu dK.ins b.steps b.steps.length)∧Below (w.heap.size+1) W4 wx∧w.heap.size+4<=wx.heap.size)
        case h1=>
         intro Q' hK
         go_region_law ((refine Par.mZ rfl (.tmp 102) (.tmp 109) 94 rfl (w.heap.size+4) 113 i0 (.agg #[.int .i64 0,.int .i64 0,.int .i64 0,.int .i64 0]) 4 32 Lo.JF hi hz0 hz1 hz2 rfl (by decide) v1 (dA b k).length (cellsS (dA b k)) rfl (Xz.out.row.drew.alloc _) ⟨wr.heap.size,0,none⟩ 1 1 [.int .i64 x.1,.int .i64 x.2,.int .i64 cm,.int .i64 (b.steps.length:Int)] rfl rfl (World.news_of_block (heap_alloc_new wr.drew _)) (by simp [Value.oneCell']) (by omega) (by unfold maxLen;omega) (by omega) (by simp;omega) (wr.heap.size+1) (by simp) ((show Par.dh wr.drew v1 from Xz.out.pl).alloc _) (by intro u hu;simp at hu;rcases hu with rfl|rfl|rfl|rfl<;>rfl) (by intro u hu;simp [Value.cells] at hu;subst hu;rfl) ?_
                         intro g cap w1 hown1 hgrow hat hlt1 xB;have hbk:=NK Xz.out hgrow (by omega) (by omega);have c0:=(iK hbk).1;have f0:=(iK hbk).2.2.2.1;have x8:=Lib.hid hbk;have HOW:=Lib.hid hown1;have JJ:=Lib.hid hgrow;have RD:=Lib.hid xB;clear hbk hown1 hgrow hat xB))
         all_goals
          refine hK g cap _ ⟨?_,((HM4.out.drew.alloc _).kept JJ.out ?_).kept (mG _ _ _ _) (λe=>by have :=aD e;omega),((HU5.out.drew.alloc _).kept JJ.out ?_).kept (mG _ _ _ _) (λe=>by have :=aD e;omega),((RA.out.drew.alloc (by show w.heap.size+1<=wr.heap.size;omega) _).grown JJ.out (by simp;omega) (λj hj=>by have :=(HV.out j hj).1;omega)).setCell (aj _) _,?_⟩
          ·rw [Ai];have :=eB.step (ss:=dA b k) (news:=[qN b k]) (g:=g) (cap:=cap) (m:=k+1) x8.out (by rw [<-RB.out];simpa [gX] using HOW.out) (by simp [gX]) (by simpa [gX] using RD.out) (by omega);simpa [gX] using this
          ·intro e;have :=(HV.out _ e.symm).1;omega
          ·intro e;have :=(HV.out _ e.symm).1;omega
          ·have :=JJ.out.size;simp [World.setCell] at this ⊢;omega
        case h2=>
         rintro g cap wx ⟨q1,q2,q3,q4,q5⟩;have Q1:=Lib.hid q1;have Q2:=Lib.hid q2;have Q3:=Lib.hid q3;have Q4:=Lib.hid q4;clear q1 q2 q3 q4 Xz HM4 HU5 RA x0d x1d v0d v0a vf0 hlk2 HLK RB HPS HUB HMB;go_wp2;go_roundw
         case rel=>exact ⟨k+1,_,by omega,by go_num,Q1.out,Q2.out,Q3.out,Q4.out,q5⟩
         case measure=>simp [intOf];omega
       |some iu=>
        have hd:Maps.has (Ac (eu dK.ins b.steps b.steps.length)) (kI k)=true:=by rw [hhas];unfold uu at XA;rw [XA];rfl
        have hiu:(lastOf (eu dK.ins b.steps b.steps.length) k).getD 0=iu:=by unfold uu at XA;rw [XA];rfl
        rw [hiu] at Vt;have HAT:=Lib.hid Vt;clear hhas Vt hiu
        go_wp2_with (first
         |(at_lookup;refine wpList_lookup_own_ok_int _ rfl _ _ 106 rfl 3 3 .i64 Lo.Rw Lo.D5 Lo.Iy (Lo.Rx _) (w.heap.size+1+1+1) _ _ rfl Yy _ _ rfl hkey ?_;intro c hat hwc;rw [hd];have U7:=Ru (HAT.out.symm.trans hat);have Yz:=Lib.hid U7;clear hat hwc U7)
         |go_in)
        have HLK:=Lib.hid hlk;have HU5:=Lib.hid Yy;have hsum:(dA b k).length+1<=64:=by omega
        rw [XA,Yz.out] at HPS HUB;have hpc:=D7 HPS.out HMB.out.1 HUB.out.1;have RB:=Lib.hid hpc;clear Yy hlk hd hkey hpc;have hlk2:=HLK.out;apply Cx (λg cap wx=>eB wx (w.heap.size+1) (w.heap.size+4) b.steps.length ((b.steps.length:Int)+1) (dA b (k+1)) (.slice (some ⟨g,0,none⟩) (k+1) cap)∧mI wx (w.heap.size+1+1) 1024 (eu dK.outs b.steps b.steps.length)∧mI wx (w.heap.size+1+1+1) 1024 (eu dK.ins b.steps b.steps.length)∧Below (w.heap.size+1) W4 wx∧w.heap.size+4<=wx.heap.size)
        case h1=>
         intro Q' hK
         go_region_law ((refine Par.mZ rfl (.tmp 102) (.tmp 109) 94 rfl (w.heap.size+4) 113 i0 (.agg #[.int .i64 0,.int .i64 0,.int .i64 0,.int .i64 0]) 4 32 Lo.JF hi hz0 hz1 hz2 rfl (by decide) v1 (dA b k).length (cellsS (dA b k)) rfl (Xz.out.row.drew.alloc _) ⟨wr.heap.size,0,none⟩ 1 1 [.int .i64 x.1,.int .i64 x.2,.int .i64 cm,.int .i64 c] rfl rfl (World.news_of_block (heap_alloc_new wr.drew _)) (by simp [Value.oneCell']) (by omega) (by unfold maxLen;omega) (by omega) (by simp;omega) (wr.heap.size+1) (by simp) ((show Par.dh wr.drew v1 from Xz.out.pl).alloc _) (by intro u hu;simp at hu;rcases hu with rfl|rfl|rfl|rfl<;>rfl) (by intro u hu;simp [Value.cells] at hu;subst hu;rfl) ?_
                         intro g cap w1 hown1 hgrow hat hlt1 xB;have hbk:=NK Xz.out hgrow (by omega) (by omega);have c0:=(iK hbk).1;have f0:=(iK hbk).2.2.2.1;have x8:=Lib.hid hbk;have HOW:=Lib.hid hown1;have JJ:=Lib.hid hgrow;have RD:=Lib.hid xB;clear hbk hown1 hgrow hat xB))
         all_goals
          refine hK g cap _ ⟨?_,((HM4.out.drew.alloc _).kept JJ.out ?_).kept (mG _ _ _ _) (λe=>by have :=aD e;omega),((HU5.out.drew.alloc _).kept JJ.out ?_).kept (mG _ _ _ _) (λe=>by have :=aD e;omega),((RA.out.drew.alloc (by show w.heap.size+1<=wr.heap.size;omega) _).grown JJ.out (by simp;omega) (λj hj=>by have :=(HV.out j hj).1;omega)).setCell (aj _) _,?_⟩
          ·rw [Ai];have :=eB.step (ss:=dA b k) (news:=[qN b k]) (g:=g) (cap:=cap) (m:=k+1) x8.out (by rw [<-RB.out];simpa [gX] using HOW.out) (by simp [gX]) (by simpa [gX] using RD.out) (by omega);simpa [gX] using this
          ·intro e;have :=(HV.out _ e.symm).1;omega
          ·intro e;have :=(HV.out _ e.symm).1;omega
          ·have :=JJ.out.size;simp [World.setCell] at this ⊢;omega
        case h2=>
         rintro g cap wx ⟨q1,q2,q3,q4,q5⟩;have Q1:=Lib.hid q1;have Q2:=Lib.hid q2;have Q3:=Lib.hid q3;have Q4:=Lib.hid q4;clear q1 q2 q3 q4 Xz HM4 HU5 RA x0d x1d v0d v0a vf0 hlk2 HLK RB HPS HUB HMB;go_wp2;go_roundw
         case rel=>exact ⟨k+1,_,by omega,by go_num,Q1.out,Q2.out,Q3.out,Q4.out,q5⟩
         case measure=>simp [intOf];omega
    ·obtain rfl:k=b.bP.length:=by omega
     have HW:=Lib.hid uw;have Bw:=Lib.hid hbl;have c02:wr.cell? ⟨w.heap.size,2,none⟩=some (.slice jU b.steps.length cs):=FM.out wr hbl 2;have hv1:=uw.row.lt;have HV:=Lib.hid hv1;clear uw hmk Rz hbl hv1;go_wp2;generalize wr=wr5 at *;have hsz5:=hsz
     go_loopw [117] (λi wr=>∃k:Nat,∃v:Value,k<=b.steps.length∧i= .int .i64 (k:Int)∧eB wr (w.heap.size+1) (w.heap.size+4) b.steps.length ((b.steps.length:Int)+1) (dA b b.bP.length++dR b hand k) v∧Below (w.heap.size+1) W4 wr∧w.heap.size+4<=wr.heap.size) (λi _=>b.steps.length - (intOf i).toNat)
     case atStart=>exact ⟨0,_,aL _,rfl,by simpa [dR] using HW.out,Bw.out,hsz5⟩
     case round=>
      obtain ⟨k,v2,hk,rfl,uw,hbl,hsz⟩:=hrel;clear HW Bw HV
      by_cases hlt:k<b.steps.length
      ·have hlt':(k:Int)<(b.steps.length:Int):=by omega
       have hkp:=HK.out wr (hbl.mono (by omega));obtain ⟨bb,off,rfl,hbb,hc⟩:=h3.keep hkp (by omega);obtain ⟨k0,k1,k2,k3,k4,k5,k6⟩:=Ir hc hlt
       have hst:dR b hand (k+1)=dR b hand k++qO b.steps.length hand k b.steps[k]:=by
        show dR b hand k++_=_;rw [ax hlt]
       have hlen:=tJ b hand k (by omega);generalize b.steps[k]=s at *;have HST:=Lib.hid hst;have HW:=Lib.hid uw;have Bw:=Lib.hid hbl;have hv2:=uw.row.lt;have HV:=Lib.hid hv2;clear hkp hc hst uw hbl hv2
       by_cases hh1:s.hand=hand
       ·have hhd:(s.hand==hand)=true:=by simpa using hh1
        go_wp2;generalize JI:wr.alloc (.cells #[.int .i64 hand,.slice (sv k).a1 s.ins.length (sv k).c1,.slice (sv k).a2 s.outs.length (sv k).c2,.int .i64 s.g0,.int .i64 s.g1,.int .i64 s.l0,.int .i64 s.l1] 69)=wA;have szA:wA.heap.size=wr.heap.size+1:=by subst JI;simp
        have a9:∀j:Nat,wA.cell? ⟨wr.heap.size,j,none⟩=(#[Value.int .i64 hand,.slice (sv k).a1 s.ins.length (sv k).c1,.slice (sv k).a2 s.outs.length (sv k).c2,.int .i64 s.g0,.int .i64 s.g1,.int .i64 s.l0,.int .i64 s.l1]:Array Value)[j]?:=by subst JI;intro j;rw [World.cell?_alloc_at _ _ _ _ rfl]
        have a3:wA.cell? ⟨wr.heap.size,3,none⟩=some (.int .i64 s.g0):=a9 3;have a4:wA.cell? ⟨wr.heap.size,3+1,none⟩=some (.int .i64 s.g1):=a9 4;have a5:wA.cell? ⟨wr.heap.size,5,none⟩=some (.int .i64 s.l0):=a9 5;have a6:wA.cell? ⟨wr.heap.size,5+1,none⟩=some (.int .i64 s.l1):=a9 6;have YA:eB wA (w.heap.size+1) (w.heap.size+4) b.steps.length ((b.steps.length:Int)+1) (dA b b.bP.length++dR b hand k) v2:=by subst JI;exact HW.out.alloc (by omega) _
        have hBA:Below (w.heap.size+1) W4 wA:=by subst JI;exact Bw.out.alloc (by omega) _
        have v0:=(iK YA.blk).1;have hpc:=step_cells (n:=b.steps.length) (k:=k) (hand:=hand) (s:=s) (tv:=(b.steps.length:Int)+1) (by rw [if_pos hh1];simp);have hln:(dA b b.bP.length++dR b hand k).length=b.bP.length+2*k:=by rw [List.length_append,gX,hlen]
        have hSA:Ry wr.heap.size s wA:=⟨a3,a4,a5,a6⟩;have SA:=Lib.hid hSA;have WA:=Lib.hid YA;have BA:=Lib.hid hBA;have RB:=Lib.hid hpc;clear JI a9 hSA YA hBA HW Bw hpc k0 k1 k2 k3 k4 k5 k6;generalize wr.heap.size=nr at *;apply Cy (λg cap q wx=>eB wx (w.heap.size+1) (w.heap.size+4) b.steps.length ((b.steps.length:Int)+1) (dA b b.bP.length++dR b hand (k+1)) (.slice (some ⟨g,0,none⟩) (b.bP.length+2*k+2) cap)∧Below (w.heap.size+1) W4 wx∧w.heap.size+4<=wx.heap.size)
        case h1=>
         intro Q' hK
         go_region_law (first
          |(refine Par.mZ rfl (.tmp 133) (.tmp 146) 94 rfl (w.heap.size+4) 113 i0 (.agg #[.int .i64 0,.int .i64 0,.int .i64 0,.int .i64 0]) 4 32 Lo.JF hi hz0 hz1 hz2 rfl (by decide) v2 (dA b b.bP.length++dR b hand k).length (cellsS (dA b b.bP.length++dR b hand k)) rfl (ZW.out.row.alloc _) ⟨w2.heap.size,0,none⟩ 2 2 [.int .i64 s.g0,.int .i64 s.g1,.int .i64 (b.steps.length:Int),.int .i64 (k:Int),.int .i64 s.l0,.int .i64 s.l1,.int .i64 (k:Int),.int .i64 ((b.steps.length:Int)+1)] rfl rfl (World.news_of_block (heap_alloc_new w2 _)) (by simp [Value.oneCell']) (by omega) (by unfold maxLen;omega) (by omega) (by simp;omega) (w2.heap.size+1) (by simp) (ZW.out.pl.alloc _) (by intro u hu;simp at hu;rcases hu with rfl|rfl|rfl|rfl|rfl|rfl|rfl|rfl<;>rfl) (by intro u hu;simp [Value.cells] at hu;subst hu;rfl) ?_
            intro g cap w3 hown1 hgrow hat hlt1 xB;have hbk:=JG ZW.out hgrow (by omega) (by omega);have S3:=Lib.hid (Ry.keep SZ.out ((hgrow.block nr (by simp;omega) (λe=>by have :=(HV.out nr e.symm).2;omega)).trans (Below.heap_alloc _ _ _ (by omega))));have c0:=(iK hbk).1;have f0:=(iK hbk).2.2.2.1;have x8:=Lib.hid hbk;have HOW:=Lib.hid hown1;have JJ:=Lib.hid hgrow;have RD:=Lib.hid xB;clear hbk hown1 hgrow hat xB)
          |(go_simp
            go_at_call 53
            refine (Lo.mX _ _ _).mono ?_
            rintro e w2 ⟨rfl,hb2⟩;have SZ:=Lib.hid (Ry.keep SY.out (hb2.block nr (by omega)));have z0:=(bV hb2 (w.heap.size+1) 0 (by omega)).trans y0;have zs:w1.heap.size<=w2.heap.size:=hb2.size;have za:∀o,(w2.alloc o).cell? ⟨w.heap.size+1,0,none⟩=some v2:= λo=>(World.cell?_alloc_past _ _ _ (by show w.heap.size+1<w2.heap.size;omega)).trans z0
            have ZW:=Lib.hid (YW.out.below hb2 rfl (by omega));have ZB:=Lib.hid (YB.out.trans (hb2.mono (by omega)));clear hb2)
          |(go_simp
            go_at_call 53
            refine (Lo.mX _ _ _).mono ?_
            rintro e w1 ⟨rfl,hb1⟩;have y0:=(bV hb1 (w.heap.size+1) 0 (by show w.heap.size+1<wA.heap.size;omega)).trans v0;have y5:=(bV hb1 nr 5 (by show nr<wA.heap.size;omega)).trans a5;have y6:=(bV hb1 nr (5+1) (by show nr<wA.heap.size;omega)).trans a6;have SY:=Lib.hid (Ry.keep SA.out (hb1.block nr (by show nr<wA.heap.size;omega)));have ys:wA.heap.size<=w1.heap.size:=hb1.size;have YW:=Lib.hid (eB.below (w:=wA.drew) (⟨WA.out.blk,WA.out.row.drew,WA.out.pl⟩:eB wA.drew _ _ _ _ _ _) hb1 rfl (by show w.heap.size+1<wA.heap.size;omega));have YB:=Lib.hid (BA.out.drew.trans (hb1.mono (by show w.heap.size+1<=wA.heap.size;omega)));clear hb1))
         all_goals
          generalize w2.heap.size=q;refine hK g cap q _ ⟨?_,((ZB.out.alloc (by omega) _).grown JJ.out (by simp;omega) (λj hj=>by have :=(HV.out j hj).1;omega)).setCell (p:=⟨w.heap.size+1,0,none⟩) (aj _) _,?_⟩
          ·rw [HST.out, <-List.append_assoc];have :=eB.step (ss:=dA b b.bP.length++dR b hand k) (news:=qO b.steps.length hand k s) (g:=g) (cap:=cap) (m:=b.bP.length+2*k+2) x8.out (by rw [<-RB.out];simpa only [hln] using HOW.out) (by rw [hln];rfl) (by simpa only [hln] using RD.out) (by omega);simpa only [hln] using this
          ·have :=JJ.out.size;simp [World.setCell] at this ⊢;omega
        case h2=>
         rintro g cap q wx ⟨q1,q4,q5⟩;have Q1:=Lib.hid q1;have Q4:=Lib.hid q4;clear q1 q4 WA BA RB HST v0 a3 a4 a5 a6;go_wp2;go_roundw
         case rel=>exact ⟨k+1,_,by omega,by go_num,Q1.out,Q4.out,q5⟩
         case measure=>simp [intOf];omega
       ·have hhd:(s.hand==hand)=false:=by simpa using hh1
        go_wp2;generalize JI:wr.alloc (.cells #[.int .i64 s.hand,.slice (sv k).a1 s.ins.length (sv k).c1,.slice (sv k).a2 s.outs.length (sv k).c2,.int .i64 s.g0,.int .i64 s.g1,.int .i64 s.l0,.int .i64 s.l1] 69)=wA;have szA:wA.heap.size=wr.heap.size+1:=by subst JI;simp
        have a9:∀j:Nat,wA.cell? ⟨wr.heap.size,j,none⟩=(#[Value.int .i64 s.hand,.slice (sv k).a1 s.ins.length (sv k).c1,.slice (sv k).a2 s.outs.length (sv k).c2,.int .i64 s.g0,.int .i64 s.g1,.int .i64 s.l0,.int .i64 s.l1]:Array Value)[j]?:=by subst JI;intro j;rw [World.cell?_alloc_at _ _ _ _ rfl]
        have a3:wA.cell? ⟨wr.heap.size,3,none⟩=some (.int .i64 s.g0):=a9 3;have a4:wA.cell? ⟨wr.heap.size,3+1,none⟩=some (.int .i64 s.g1):=a9 4;have a5:wA.cell? ⟨wr.heap.size,5,none⟩=some (.int .i64 s.l0):=a9 5;have a6:wA.cell? ⟨wr.heap.size,5+1,none⟩=some (.int .i64 s.l1):=a9 6;have YA:eB wA (w.heap.size+1) (w.heap.size+4) b.steps.length ((b.steps.length:Int)+1) (dA b b.bP.length++dR b hand k) v2:=by subst JI;exact HW.out.alloc (by omega) _
        have hBA:Below (w.heap.size+1) W4 wA:=by subst JI;exact Bw.out.alloc (by omega) _
        have v0:=(iK YA.blk).1;have hpc:=step_cells (n:=b.steps.length) (k:=k) (hand:=hand) (s:=s) (tv:=(b.steps.length:Int)) (by rw [if_neg hh1]);have hln:(dA b b.bP.length++dR b hand k).length=b.bP.length+2*k:=by rw [List.length_append,gX,hlen]
        have hSA:Ry wr.heap.size s wA:=⟨a3,a4,a5,a6⟩;have SA:=Lib.hid hSA;have WA:=Lib.hid YA;have BA:=Lib.hid hBA;have RB:=Lib.hid hpc;clear JI a9 hSA YA hBA HW Bw hpc k0 k1 k2 k3 k4 k5 k6;generalize wr.heap.size=nr at *;apply Cy (λg cap q wx=>eB wx (w.heap.size+1) (w.heap.size+4) b.steps.length ((b.steps.length:Int)+1) (dA b b.bP.length++dR b hand (k+1)) (.slice (some ⟨g,0,none⟩) (b.bP.length+2*k+2) cap)∧Below (w.heap.size+1) W4 wx∧w.heap.size+4<=wx.heap.size)
        case h1=>
         intro Q' hK
         go_region_law (first
          |(refine Par.mZ rfl (.tmp 133) (.tmp 146) 94 rfl (w.heap.size+4) 113 i0 (.agg #[.int .i64 0,.int .i64 0,.int .i64 0,.int .i64 0]) 4 32 Lo.JF hi hz0 hz1 hz2 rfl (by decide) v2 (dA b b.bP.length++dR b hand k).length (cellsS (dA b b.bP.length++dR b hand k)) rfl (ZW.out.row.alloc _) ⟨w2.heap.size,0,none⟩ 2 2 [.int .i64 s.g0,.int .i64 s.g1,.int .i64 (b.steps.length:Int),.int .i64 (k:Int),.int .i64 s.l0,.int .i64 s.l1,.int .i64 (k:Int),.int .i64 ((b.steps.length:Int))] rfl rfl (World.news_of_block (heap_alloc_new w2 _)) (by simp [Value.oneCell']) (by omega) (by unfold maxLen;omega) (by omega) (by simp;omega) (w2.heap.size+1) (by simp) (ZW.out.pl.alloc _) (by intro u hu;simp at hu;rcases hu with rfl|rfl|rfl|rfl|rfl|rfl|rfl|rfl<;>rfl) (by intro u hu;simp [Value.cells] at hu;subst hu;rfl) ?_
            intro g cap w3 hown1 hgrow hat hlt1 xB;have hbk:=JG ZW.out hgrow (by omega) (by omega);have S3:=Lib.hid (Ry.keep SZ.out ((hgrow.block nr (by simp;omega) (λe=>by have :=(HV.out nr e.symm).2;omega)).trans (Below.heap_alloc _ _ _ (by omega))));have c0:=(iK hbk).1;have f0:=(iK hbk).2.2.2.1;have x8:=Lib.hid hbk;have HOW:=Lib.hid hown1;have JJ:=Lib.hid hgrow;have RD:=Lib.hid xB;clear hbk hown1 hgrow hat xB)
          |(go_simp
            go_at_call 53
            refine (Lo.mX _ _ _).mono ?_
            rintro e w2 ⟨rfl,hb2⟩;have SZ:=Lib.hid (Ry.keep SY.out (hb2.block nr (by omega)));have z0:=(bV hb2 (w.heap.size+1) 0 (by omega)).trans y0;have zs:w1.heap.size<=w2.heap.size:=hb2.size;have za:∀o,(w2.alloc o).cell? ⟨w.heap.size+1,0,none⟩=some v2:= λo=>(World.cell?_alloc_past _ _ _ (by show w.heap.size+1<w2.heap.size;omega)).trans z0
            have ZW:=Lib.hid (YW.out.below hb2 rfl (by omega));have ZB:=Lib.hid (YB.out.trans (hb2.mono (by omega)));clear hb2)
          |(go_simp
            go_at_call 53
            refine (Lo.mX _ _ _).mono ?_
            rintro e w1 ⟨rfl,hb1⟩;have y0:=(bV hb1 (w.heap.size+1) 0 (by show w.heap.size+1<wA.heap.size;omega)).trans v0;have y5:=(bV hb1 nr 5 (by show nr<wA.heap.size;omega)).trans a5;have y6:=(bV hb1 nr (5+1) (by show nr<wA.heap.size;omega)).trans a6;have SY:=Lib.hid (Ry.keep SA.out (hb1.block nr (by show nr<wA.heap.size;omega)));have ys:wA.heap.size<=w1.heap.size:=hb1.size;have YW:=Lib.hid (eB.below (w:=wA.drew) (⟨WA.out.blk,WA.out.row.drew,WA.out.pl⟩:eB wA.drew _ _ _ _ _ _) hb1 rfl (by show w.heap.size+1<wA.heap.size;omega));have YB:=Lib.hid (BA.out.drew.trans (hb1.mono (by show w.heap.size+1<=wA.heap.size;omega)));clear hb1))
         all_goals
          generalize w2.heap.size=q;refine hK g cap q _ ⟨?_,((ZB.out.alloc (by omega) _).grown JJ.out (by simp;omega) (λj hj=>by have :=(HV.out j hj).1;omega)).setCell (p:=⟨w.heap.size+1,0,none⟩) (aj _) _,?_⟩
          ·rw [HST.out, <-List.append_assoc];have :=eB.step (ss:=dA b b.bP.length++dR b hand k) (news:=qO b.steps.length hand k s) (g:=g) (cap:=cap) (m:=b.bP.length+2*k+2) x8.out (by rw [<-RB.out];simpa only [hln] using HOW.out) (by rw [hln];rfl) (by simpa only [hln] using RD.out) (by omega);simpa only [hln] using this
          ·have :=JJ.out.size;simp [World.setCell] at this ⊢;omega
        case h2=>
         rintro g cap q wx ⟨q1,q4,q5⟩;have Q1:=Lib.hid q1;have Q4:=Lib.hid q4;clear q1 q4 WA BA RB HST v0 a3 a4 a5 a6;go_wp2;go_roundw
         case rel=>exact ⟨k+1,_,by omega,by go_num,Q1.out,Q4.out,q5⟩
         case measure=>simp [intOf];omega
      ·obtain rfl:k=b.steps.length:=by omega
       have hln:(dA b b.bP.length++dR b hand b.steps.length).length=b.bP.length+2*b.steps.length:=by rw [List.length_append,gX,tJ b hand _ (aj _)]
       obtain ⟨v0,v1c,v2c,vf0,vf1,vf2⟩:=iK uw.blk;have hv2:=uw.row.lt;have HV:=Lib.hid hv2;have HW:=Lib.hid uw;have Bw:=Lib.hid hbl;clear uw hbl hv2
       by_cases h0:0<=hand
       ·have hd0:decide (0<=hand)=true:=by simpa using h0
        have hw2:(wr.setCell ⟨w.heap.size+1,2,none⟩ (.int .i64 ((b.steps.length:Int)+1+1))).heap[w.heap.size+1]?=some (.cells #[v2,.int .i64 (b.steps.length:Int),.int .i64 ((b.steps.length:Int)+1+1)] 96):=LJ HW.out.blk
        obtain ⟨w0,_,_,wf0,_,_⟩:=iK hw2
        have hrow:(wr.setCell ⟨w.heap.size+1,2,none⟩ (.int .i64 ((b.steps.length:Int)+1+1))).ownsRow (w.heap.size+4) 113 4 v2 (dA b b.bP.length++dR b hand b.steps.length).length (cellsS (dA b b.bP.length++dR b hand b.steps.length)):=HW.out.row.kept (mG _ _ _ _) (by
         cases e:v2.ownBlock with
         |none=>exact .inl rfl
         |some g=>exact .inr (by have :=(HV.out g e).1;simp;omega))
        have ae6:Par.dh (wr.setCell ⟨w.heap.size+1,2,none⟩ (.int .i64 ((b.steps.length:Int)+1+1))) v2:=HW.out.pl.keep λg hg=>Below.heap_setCell _ _ _ _ (by have :=(HV.out g hg).1;show g≠w.heap.size+1;omega)
        have hbw:Below (w.heap.size+1) W4 (wr.setCell ⟨w.heap.size+1,2,none⟩ (.int .i64 ((b.steps.length:Int)+1+1))):=Bw.out.setCell (p:=⟨w.heap.size+1,2,none⟩) (aj _) _;have av0:(wr.setCell ⟨w.heap.size+1,2,none⟩ (.int .i64 ((b.steps.length:Int)+1+1))).heap.size=wr.heap.size:=by simp [World.setCell]
        have H2:=Lib.hid hw2;have HR:=Lib.hid hrow;have RD:=Lib.hid ae6;have Xx:=Lib.hid hbw;clear hw2 hrow ae6 hbw
        go_wp2_with (first
         |(at_builtin;refine Par.Bt rfl (.tmp 164) (.tmp 170) 94 rfl (w.heap.size+4) 113 i0 (.agg #[.int .i64 0,.int .i64 0,.int .i64 0,.int .i64 0]) 4 32 Lo.JF hi hz0 hz1 hz2 rfl (by decide) v2 (dA b b.bP.length++dR b hand b.steps.length).length (cellsS (dA b b.bP.length++dR b hand b.steps.length)) rfl (HR.out.alloc _) ⟨wr.heap.size,0,none⟩ 1 1 [.int .i64 0,.int .i64 8000000,.int .i64 ((b.steps.length:Int)+1),.int .i64 (b.steps.length:Int)] rfl rfl ?c1 (by simp [Value.oneCell']) (by omega) (by unfold maxLen;omega) (by omega) (by simp;omega) (wr.heap.size+1) (by simp) (RD.out.alloc _) (by intro u hu;simp at hu;rcases hu with rfl|rfl|rfl|rfl<;>rfl) (by intro u hu;simp [Value.cells] at hu;subst hu;rfl) ?c2)
         |go_in)
        case c1=>
         have :=World.news_of_block (heap_alloc_new (wr.setCell ⟨w.heap.size+1,2,none⟩ (.int .i64 ((b.steps.length:Int)+1+1))) (.cells #[.int .i64 0,.int .i64 8000000,.int .i64 ((b.steps.length:Int)+1),.int .i64 (b.steps.length:Int)] 113));simpa using this
        intro g cap w3 hown1 hgrow hat hlt1 xB;have hbk:=(hgrow.block (w.heap.size+1) (by simp;omega) (λe=>by have :=(HV.out _ e.symm).1;omega)).trans ((Below.heap_alloc _ _ _ (by omega)).trans H2.out);have c0:=(iK hbk).1;have f0:=(iK hbk).2.2.2.1;have hgs:=hgrow.size;have x8:=Lib.hid hbk;have HOW:=Lib.hid hown1;have JJ:=Lib.hid hgrow;have ao2:=Lib.hid xB;clear hbk hown1 hgrow hat xB w0 wf0;go_wp2;go_ret;have hwl:dP b hand=(dA b b.bP.length++dR b hand b.steps.length)++ [⟨0,8000000,b.steps.length+1,b.steps.length⟩]:=by unfold dP;rw [if_pos h0]
        have hnd:(dw b hand:Int)=(b.steps.length:Int)+1+1:=by unfold dw;rw [if_pos h0];simp;omega
        have hfin:=(eB.step (g:=g) (cap:=cap) (m:=b.bP.length+2*b.steps.length+1) (ss:=dA b b.bP.length++dR b hand b.steps.length) (news:=[⟨0,8000000,b.steps.length+1,b.steps.length⟩]) x8.out (by simpa [cellsS,hln] using HOW.out) (by rw [hln];rfl) (by simpa [hln] using ao2.out) (by omega)).base (show w.heap.size<=w.heap.size+4 by omega);have hbe:=((((Xx.out.alloc (by omega) _).grown JJ.out (by simp;omega) (λj hj=>by have :=(HV.out j hj).1;omega)).setCell (p:=⟨w.heap.size+1,0,none⟩) (aj _) (.slice (some ⟨g,0,none⟩) (b.bP.length+2*b.steps.length+1) cap)).mono (show w.heap.size<=w.heap.size+1 by omega));rw [<-hwl, <-hnd] at hfin;refine ⟨w.heap.size+1,.slice (some ⟨g,0,none⟩) (b.bP.length+2*b.steps.length+1) cap,rfl,by omega,by simp [World.setCell] at hgs ⊢;omega,?_,?_⟩
        ·exact hfin
        ·exact yC.out.trans hbe
       ·have hd0:decide (0<=hand)=false:=by simpa using h0
        clear v0 v1c v2c vf0 vf1 vf2;go_wp2;go_ret;have hwl:dP b hand=dA b b.bP.length++dR b hand b.steps.length:=by unfold dP;rw [if_neg (by omega),List.append_nil]
        have hnd:(dw b hand:Int)=(b.steps.length:Int)+1:=by unfold dw;rw [if_neg (by omega)];simp
        exact ⟨w.heap.size+1,v2,rfl,by omega,by omega,by rw [hwl,hnd];exact HW.out.base (by omega),yC.out.trans (Bw.out.mono (by omega))⟩
end Go.Proofs
