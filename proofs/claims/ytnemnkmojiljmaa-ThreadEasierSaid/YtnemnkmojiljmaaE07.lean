/- Part 7. -/
import Derived.Test.YtnemnkmojiljmaaE06
set_option maxRecDepth 100000
set_option maxHeartbeats 8000000
set_option linter.all false
namespace Go.Proofs
open Go Go.RowKit Go.Maps
variable [Lo.St]
theorem Lo.Gb {w:World} {B:Nat} {b:dx} {v:iR} (hb:eT w B b v) (hB:B<=w.heap.size) (hg:b.good) (hand:Int) (hh: -1<=hand∧hand<=64):
 Calls Lo.prog 29 #[dM b v,.int .i64 hand] w (Vu w b hand):=by
 obtain ⟨U,U2,U3,U4,U5,U6⟩:=@Lo.facts inferInstance;have C:=(@Lo.call53 inferInstance);have C2:=(@Lo.call52 inferInstance);have hmm:=@run_makeMap Lo.prog;obtain ⟨i0,hi,hz0,hz1,hz2⟩:=info_parts Lo.Vs;have hn8:=hg.n8;have ae4:=hg.p12;have hsc:=hg.bT;obtain ⟨h1,h2,h3,h4,h5,h6,_⟩:=hb;unfold dM;generalize v.ah=ah at h1 ⊢;generalize v.ch=ch;generalize v.ap=ap at h2 ⊢;generalize v.cp=cp;generalize v.jT=jT at h3 ⊢;generalize v.cs=cs;generalize v.ac=ac at h6 ⊢;generalize v.cc=cc;generalize v.sv=sv at h3 h4 h5;go_enter Lo.func29,Try.ntmps29;go_wp2;generalize Yu:((((w.alloc (.cells #[.slice ah b.hands.length ch,.slice ap b.bQ.length cp,.slice jT b.steps.length cs,.slice ac b.bT.length cc] 43)).alloc (.cells #[.slice none 0 0,.int .i64 (b.steps.length:Int),.int .i64 ((b.steps.length:Int)+1)] 96)).alloc (.map #[] 0)).alloc (.map #[] 0))=W4;have sz4:W4.heap.size=w.heap.size+4:=by subst Yu;simp
 have LD:Below w.heap.size w W4:=by
  subst Yu;exact (((((Below.refl _ _).alloc (aj _) _).alloc (by simp) _).alloc (by simp;omega) _).alloc (by simp;omega) _)
 have mk4:mI W4 (w.heap.size+1+1) 0 []:=by
  subst Yu;have :=(World.ownsMap_made (H:=Unit) ((w.alloc (.cells #[.slice ah b.hands.length ch,.slice ap b.bQ.length cp,.slice jT b.steps.length cs,.slice ac b.bT.length cc] 43)).alloc (.cells #[.slice none 0 0,.int .i64 (b.steps.length:Int),.int .i64 ((b.steps.length:Int)+1)] 96)) Lo.prog 3 (plainElem Lo.prog 3)).alloc (.map #[] 0);simpa [mI,Ae] using this
 have us4:mI W4 (w.heap.size+1+1+1) 0 []:=by
  subst Yu;have :=World.ownsMap_made (H:=Unit) (((w.alloc (.cells #[.slice ah b.hands.length ch,.slice ap b.bQ.length cp,.slice jT b.steps.length cs,.slice ac b.bT.length cc] 43)).alloc (.cells #[.slice none 0 0,.int .i64 (b.steps.length:Int),.int .i64 ((b.steps.length:Int)+1)] 96)).alloc (.map #[] 0)) Lo.prog 3 (plainElem Lo.prog 3);simpa [mI,Ae] using this
 have bk4:∀j:Nat,W4.cell? ⟨w.heap.size,j,none⟩=(#[Value.slice ah b.hands.length ch,.slice ap b.bQ.length cp,.slice jT b.steps.length cs,.slice ac b.bT.length cc]:Array Value)[j]?:=by
  subst Yu;intro j;rw [World.cell?_alloc_past _ _ _ (by simp;omega),World.cell?_alloc_past _ _ _ (by simp;omega),World.cell?_alloc_past _ _ _ (by simp),World.cell?_alloc_at _ _ _ _ rfl]
 have bw4:W4.heap[w.heap.size+1]?=some (.cells #[.slice none 0 0,.int .i64 (b.steps.length:Int),.int .i64 ((b.steps.length:Int)+1)] 96):=by
  subst Yu;rw [Below.heap_alloc _ _ _ (by simp),Below.heap_alloc _ _ _ (by simp)];have :=heap_alloc_new (w.alloc (.cells #[.slice ah b.hands.length ch,.slice ap b.bQ.length cp,.slice jT b.steps.length cs,.slice ac b.bT.length cc] 43)) (.cells #[.slice none 0 0,.int .i64 (b.steps.length:Int),.int .i64 ((b.steps.length:Int)+1)] 96);simpa using this
 have hkeep:∀wr,Below (w.heap.size+1) W4 wr->∀b o,b<B->wr.cell? ⟨b,o,none⟩=w.cell? ⟨b,o,none⟩:= λwr hx b o hb=>(bV hx b o (by omega)).trans (bV LD b o (by omega))
 clear Yu;have HK:=Lib.hid hkeep;have yf:=Lib.hid bk4;have Xr:=Lib.hid bw4;have yF:=Lib.hid LD;clear hkeep bk4 bw4 LD
 go_loopw [37] (λi wr=>∃k:Nat,k<=b.steps.length∧i= .int .i64 (k:Int)∧mI wr (w.heap.size+1+1) (64*k) (dZ dJ.outs b.steps k)∧mI wr (w.heap.size+1+1+1) (64*k) (dZ dJ.ins b.steps k)∧Below (w.heap.size+2) W4 wr) (λi _=>b.steps.length - (intOf i).toNat)
 case atStart=>exact ⟨0,aL _,rfl,mk4,us4,Below.refl _ _⟩
 case round=>
  obtain ⟨k,hk,rfl,hmk,Rv,hbl⟩:=hrel;clear mk4 us4
  by_cases hlt:k<b.steps.length
  ·have hlt':(k:Int)<(b.steps.length:Int):=by omega
   have hkp:=HK.out wr (hbl.mono (by omega));obtain ⟨bb,off,rfl,hbb,hc⟩:=h3.keep hkp (by omega);obtain ⟨k0,k1,k2,k3,k4,k5,k6⟩:=Ip hc hlt;have hsi:=hg.ins _ (aI hlt);have hso:=hg.outs _ (aI hlt);have hki:=hg.ki _ (aI hlt);have hko:=hg.ko _ (aI hlt);have Yv:=h4 k _ (ax hlt);have hro:=h5 k _ (ax hlt);have pmi:=CE dJ.ins b.steps k hlt;have pmo:=CE dJ.outs b.steps k hlt;generalize b.steps[k]=s at *;generalize s.ins=li at *;generalize s.outs=lo at *;generalize (sv k).a1=a1 at *;generalize (sv k).a2=a2 at *;have HKP:=Lib.hid hkp;clear hkp;have sz:=hbl.size;have HM:=Lib.hid hmk;have HU:=Lib.hid Rv;have BH:=Lib.hid hbl;clear hmk Rv hbl hc h3 h4 h5 h6 h1 h2;go_wp2;generalize uS:wr.alloc (.cells #[.int .i64 s.hand,.slice a1 li.length (sv k).c1,.slice a2 lo.length (sv k).c2,.int .i64 s.g0,.int .i64 s.g1,.int .i64 s.l0,.int .i64 s.l1] 69)=NL;have sz1:NL.heap.size=wr.heap.size+1:=by subst uS;simp
   have c2:NL.cell? ⟨wr.heap.size,2,none⟩=some (.slice a2 lo.length (sv k).c2):=by subst uS;rw [World.cell?_alloc_at _ _ _ _ rfl];rfl
   have hm1:mI NL (w.heap.size+1+1) (64*k) (dZ dJ.outs b.steps k):=by subst uS;exact HM.out.alloc _
   have hu1:mI NL (w.heap.size+1+1+1) (64*k) (dZ dJ.ins b.steps k):=by subst uS;exact HU.out.alloc _
   have hb1:Below (w.heap.size+2) W4 NL:=by subst uS;exact BH.out.alloc (by omega) _
   clear uS HM HU BH k0 k1 k2 k3 k4 k5 k6;generalize wr.heap.size=n1 at *;have C2':=Lib.hid c2;have HM:=Lib.hid hm1;have HB1:=Lib.hid hb1;clear c2 hm1 hb1
   go_loopw [45] (λi wq=>∃j:Nat,j<=li.length∧i= .int .i64 (j:Int)∧mI wq (w.heap.size+1+1+1) (64*k+j) (rG dJ.ins b.steps k li j)∧NL.grownBy wq (some (w.heap.size+1+1+1))) (λi _=>li.length - (intOf i).toNat)
   case atStart=>exact ⟨0,aL _,rfl,by rw [Ah];exact hu1,sD _ _⟩
   case round=>
    obtain ⟨j,hj,rfl,hu,hgr⟩:=hrel;clear hu1
    by_cases hjl:j<li.length
    ·have Rj:(j:Int)<(li.length:Int):=by omega
     have hbq:Below (w.heap.size+2) W4 wr:=HB1.out.grown hgr (by omega) (λj hj=>by simp at hj;omega);obtain ⟨bc,of,rfl,hbc,hcc⟩:=Yv.keep (HK.out wr (hbq.mono (by omega))) (by omega);have r1:=Iq hcc hjl;have hkk:=hki _ (aI hjl);have hps:=Ai dJ.ins b.steps k li j hjl;generalize li[j]=p at *;have hkey:keyOf Lo.prog 3 (.int .i64 p)=some (kI p):=keyOf_int_mk Lo.Iw (wfI hkk.1 hkk.2);have HG:=Lib.hid hgr;have HP:=Lib.hid hps;clear hcc hbq hgr hps Yv
     go_wp2_with (first
      |(at_mapUpdate;refine wpList_mapUpdate_own _ rfl _ _ _ 106 rfl 3 3 Lo.Rs Lo.D7 _ (w.heap.size+1+1+1) _ _ rfl hu (by unfold maxLen;omega) _ _ _ rfl rfl hkey _ [] (plainElem_int Lo.Iw (wfI (p:=(k:Int)) (by omega) (by omega))) ?_;intro w1 hown1 hgrow1)
      |go_in)
     have HO:=Lib.hid hown1;have Yw:=Lib.hid hgrow1;clear hown1 hgrow1 hu;go_roundw
     case rel=>exact ⟨j+1,by omega,by go_num,by rw [HP.out];exact Xq HO.out,HG.out.trans Yw.out⟩
     case measure=>simp [intOf];omega
    ·obtain rfl:j=li.length:=by omega
     have c2:wr.cell? ⟨n1,2,none⟩=some (.slice a2 lo.length (sv k).c2):=by
      rw [World.cell?_of_block (hgr.block n1 (by omega) (by simp;omega))];exact C2'.out
     have hm1:mI wr (w.heap.size+1+1) (64*k) (dZ dJ.outs b.steps k):=HM.out.kept hgr (by simp);have hb1:Below (w.heap.size+2) W4 wr:=HB1.out.grown hgr (by omega) (λj hj=>by simp at hj;omega);rw [CF, <-pmi] at hu;have HU:=Lib.hid (mI.up hu (show 64*k+li.length<=64*(k+1) by omega));have HB2:=Lib.hid hb1;have HM2:=Lib.hid hm1;have szr:=hb1.size;clear hu hgr HM HB1 hb1 hm1 C2' pmi Yv;go_wp2;generalize wr=wr2 at *
     go_loopw [56] (λi wr=>∃j:Nat,j<=lo.length∧i= .int .i64 (j:Int)∧mI wr (w.heap.size+1+1) (64*k+j) (rG dJ.outs b.steps k lo j)∧wr2.grownBy wr (some (w.heap.size+1+1))) (λi _=>lo.length - (intOf i).toNat)
     case atStart=>exact ⟨0,aL _,rfl,by rw [Ah];exact HM2.out,sD _ _⟩
     case round=>
      obtain ⟨j,hj,rfl,hm,hgr⟩:=hrel;clear HM2
      by_cases hjl:j<lo.length
      ·have Rj:(j:Int)<(lo.length:Int):=by omega
       have hbq:Below (w.heap.size+2) W4 wr:=HB2.out.grown hgr (by omega) (λj hj=>by simp at hj;omega);obtain ⟨bc,of,rfl,hbc,hcc⟩:=hro.keep (HK.out wr (hbq.mono (by omega))) (by omega);have r1:=Iq hcc hjl;have hkk:=hko _ (aI hjl);have hps:=Ai dJ.outs b.steps k lo j hjl;generalize lo[j]=p at *;have hkey:keyOf Lo.prog 3 (.int .i64 p)=some (kI p):=keyOf_int_mk Lo.Iw (wfI hkk.1 hkk.2);have HG:=Lib.hid hgr;have HP:=Lib.hid hps;clear hcc hbq hgr hps hro
       go_wp2_with (first
        |(at_mapUpdate;refine wpList_mapUpdate_own _ rfl _ _ _ 106 rfl 3 3 Lo.Rs Lo.D7 _ (w.heap.size+1+1) _ _ rfl hm (by unfold maxLen;omega) _ _ _ rfl rfl hkey _ [] (plainElem_int Lo.Iw (wfI (p:=(k:Int)) (by omega) (by omega))) ?_;intro w1 hown1 hgrow1)
        |go_in)
       have HO:=Lib.hid hown1;have Yw:=Lib.hid hgrow1;clear hown1 hgrow1 hm;go_roundw
       case rel=>exact ⟨j+1,by omega,by go_num,by rw [HP.out];exact Xq HO.out,HG.out.trans Yw.out⟩
       case measure=>simp [intOf];omega
      ·obtain rfl:j=lo.length:=by omega
       have hu1:mI wr (w.heap.size+1+1+1) (64*(k+1)) (dZ dJ.ins b.steps (k+1)):=HU.out.kept hgr (by simp);have hb1:Below (w.heap.size+2) W4 wr:=HB2.out.grown hgr (by omega) (λj hj=>by simp at hj;omega);rw [CF, <-pmo] at hm;have HMM:=Lib.hid (mI.up hm (show 64*k+lo.length<=64*(k+1) by omega));have HU2:=Lib.hid hu1;have HB3:=Lib.hid hb1;clear hm hgr HU HB2 hb1 hu1 pmo hro;go_wp2;go_roundw
       case rel=>exact ⟨k+1,by omega,by go_num,HMM.out,HU2.out,HB3.out⟩
       case measure=>simp [intOf];omega
  ·obtain rfl:k=b.steps.length:=by omega
   have c01:wr.cell? ⟨w.heap.size,1,none⟩=some (.slice ap b.bQ.length cp):=(bV hbl _ _ (by omega)).trans (yf.out 1);have c03:wr.cell? ⟨w.heap.size,3,none⟩=some (.slice ac b.bT.length cc):=(bV hbl _ _ (by omega)).trans (yf.out 3);have c02:wr.cell? ⟨w.heap.size,2,none⟩=some (.slice jT b.steps.length cs):=(bV hbl _ _ (by omega)).trans (yf.out 2);have hbw:wr.heap[w.heap.size+1]?=some (.cells #[.slice none 0 0,.int .i64 (b.steps.length:Int),.int .i64 ((b.steps.length:Int)+1)] 96):=(hbl.block _ (by omega)).trans Xr.out
   go_wp2;have mk5:mI wr (w.heap.size+1+1) 1024 (dZ dJ.outs b.steps b.steps.length):=mI.up hmk (by omega);have us5:mI wr (w.heap.size+1+1+1) 1024 (dZ dJ.ins b.steps b.steps.length):=mI.up Rv (by omega);have hb5:Below (w.heap.size+1) W4 wr:=hbl.mono (by omega);have sz5:=hbl.size;have bk5:∀wq,Below (w.heap.size+1) W4 wq->∀j:Nat,wq.cell? ⟨w.heap.size,j,none⟩=(#[Value.slice ah b.hands.length ch,.slice ap b.bQ.length cp,.slice jT b.steps.length cs,.slice ac b.bT.length cc]:Array Value)[j]?:= λwq hx j=>(bV hx _ _ (by omega)).trans (yf.out j)
   have FJ:=Lib.hid bk5;have ae5:eu wr (w.heap.size+1) (w.heap.size+4) b.steps.length ((b.steps.length:Int)+1) (dz b 0) (.slice none 0 0):=⟨hbw,World.ownsRow_nil _ _ _ _,Par.cZ.nil _⟩;clear hmk Rv hbl bk5 yf Xr c01 c03 c02 hbw
   go_loopw [68] (λi wr=>∃k:Nat,∃v:Value,k<=b.bQ.length∧i= .int .i64 (k:Int)∧eu wr (w.heap.size+1) (w.heap.size+4) b.steps.length ((b.steps.length:Int)+1) (dz b k) v∧mI wr (w.heap.size+1+1) 1024 (dZ dJ.outs b.steps b.steps.length)∧mI wr (w.heap.size+1+1+1) 1024 (dZ dJ.ins b.steps b.steps.length)∧Below (w.heap.size+1) W4 wr∧w.heap.size+4<=wr.heap.size) (λi _=>b.bQ.length - (intOf i).toNat)
   case atStart=>exact ⟨0,_,aL _,rfl,ae5,mk5,us5,hb5,by omega⟩
   case round=>
    obtain ⟨k,v1,hk,rfl,uz,hmk,Rv,hbl,hsz⟩:=hrel;clear ae5 mk5 us5 hb5 sz5
    by_cases hlt:k<b.bQ.length
    ·have hlt':(k:Int)<(b.bQ.length:Int):=by omega
     have HW:=Lib.hid uz;have HM:=Lib.hid hmk;have HU:=Lib.hid Rv;have BH:=Lib.hid hbl;have c03:∀o,(wr.alloc o).cell? ⟨w.heap.size,3,none⟩=some (.slice ac b.bT.length cc):= λo=>(World.cell?_alloc_past _ _ _ (by show w.heap.size<_;omega)).trans (FJ.out wr hbl 3)
     clear uz hmk Rv hbl;go_wp2;generalize uS:wr.alloc (.cells #[.int .i64 0,.int .i64 1000000] 108)=wr3;have sz3:wr3.heap.size=wr.heap.size+1:=by subst uS;simp
     have hx3:wr3.heap[wr.heap.size]?=some (.cells #[.int .i64 0,.int .i64 1000000] 108):=by subst uS;exact heap_alloc_new wr _
     have hg3:wr.grownBy wr3 none:=by subst uS;exact World.grownBy_alloc wr _ none
     have hw3:eu wr3 (w.heap.size+1) (w.heap.size+4) b.steps.length ((b.steps.length:Int)+1) (dz b k) v1:=⟨(hg3.block _ (by omega) (by simp)).trans HW.out.blk,by subst uS;exact HW.out.row.alloc _,by subst uS;exact HW.out.pl.alloc _⟩;have hm3:mI wr3 (w.heap.size+1+1) 1024 (dZ dJ.outs b.steps b.steps.length):=HM.out.kept hg3 (by simp);have hu3:mI wr3 (w.heap.size+1+1+1) 1024 (dZ dJ.ins b.steps b.steps.length):=HU.out.kept hg3 (by simp);have hb3:Below (w.heap.size+1) W4 wr3:=BH.out.grown hg3 (by omega) (λj hj=>by simp at hj);have hv1:=HW.out.row.lt;clear uS HW HM HU BH hg3 c03;generalize wr.heap.size=nx at *;have HW:=Lib.hid hw3;have HM:=Lib.hid hm3;have HU:=Lib.hid hu3;have BH:=Lib.hid hb3;have HX:=Lib.hid hx3;have HV:=Lib.hid hv1;clear hw3 hm3 hu3 hb3 hx3 hv1
     go_loopw [75] (λi wr=>∃j:Nat,j<=b.bT.length∧i= .int .i64 (j:Int)∧wr.heap[nx]?=some (.cells #[.int .i64 (kr (b.bT.take j) k).1,.int .i64 (kr (b.bT.take j) k).2] 108)∧wr3.grownBy wr (some nx)) (λi _=>b.bT.length - (intOf i).toNat)
     case atStart=>exact ⟨0,aL _,rfl,HX.out,sD _ _⟩
     case round=>
      obtain ⟨j,hj,rfl,hx,hgr⟩:=hrel;clear HX
      by_cases hjl:j<b.bT.length
      ·have Rj:(j:Int)<(b.bT.length:Int):=by omega
       have hbq:Below (w.heap.size+1) W4 wr:=BH.out.grown hgr (by omega) (λj hj=>by simp at hj;omega);obtain ⟨bc,of,rfl,hbc,hcc⟩:=h6.keep (HK.out wr hbq) (by omega);obtain ⟨r0,r1,r2⟩:=JD hcc hjl;have hps:=ao2 b.bT k j hjl;generalize b.bT[j]=sc at *;generalize kr (b.bT.take j) k=x at *;have szr:=hgr.size;have HG:=Lib.hid hgr;have HP:=Lib.hid hps;have HX:=Lib.hid hx;have hxs:=LA hx;have HXS:=Lib.hid hxs;clear hcc hbq hgr hps hx hxs
       by_cases hp:sc.pile=k
       ·have hpd:(sc.pile==(k:Int))=true:=by simpa using hp
        go_wp2;generalize JJ:wr.alloc (.cells #[.int .i64 (k:Int),.int .i64 sc.lo,.int .i64 sc.hi] 51)=wA;have szA:wA.heap.size=wr.heap.size+1:=by subst JJ;simp
        have hgA:wr.grownBy wA none:=by subst JJ;exact World.grownBy_alloc wr _ none
        have x0:wA.cell? ⟨nx,0,none⟩=some (.int .i64 x.1):=(World.cell?_of_block (hgA.block nx (by omega) (by simp))).trans HXS.out.1;have x1:wA.cell? ⟨nx,1,none⟩=some (.int .i64 x.2):=(World.cell?_of_block (hgA.block nx (by omega) (by simp))).trans HXS.out.2.1;have s1:wA.cell? ⟨wr.heap.size,1,none⟩=some (.int .i64 sc.lo):=by subst JJ;rw [World.cell?_alloc_at _ _ _ _ rfl];rfl
        have s2:wA.cell? ⟨wr.heap.size,2,none⟩=some (.int .i64 sc.hi):=by subst JJ;rw [World.cell?_alloc_at _ _ _ _ rfl];rfl
        have hAx:wA.heap[nx]?=some (.cells #[.int .i64 x.1,.int .i64 x.2] 108):=(hgA.block nx (by omega) (by simp)).trans HX.out
        obtain ⟨_,_,xf0,xf1⟩:=LA hAx;have HAX:=Lib.hid hAx;have HGA:=Lib.hid hgA;clear JJ hAx hgA;generalize wr.heap.size=nr at *;apply JI (λw2=>wr3.grownBy w2 (some nx)∧w2.heap[nx]?=some (.cells #[.int .i64 (max x.1 sc.lo),.int .i64 (min x.2 sc.hi)] 108))
        case h1=>
         intro Q' hK
         go_region_with (first
          |(go_at_call 53
            refine (Lo.ni _ _ _).mono ?_
            rintro e w1 ⟨rfl,hb1⟩;have y0:=(bV hb1 nx 0 (by show nx<wA.heap.size;omega)).trans x0;have y1:=(bV hb1 nx 1 (by show nx<wA.heap.size;omega)).trans x1;have yf0:=(Dt hb1 nx 0 (by show nx<wA.heap.size;omega)).trans xf0;have yf1:=(Dt hb1 nx 1 (by show nx<wA.heap.size;omega)).trans xf1;have yz:wA.heap.size<=w1.heap.size:=hb1.size;have HY:=Lib.hid hb1;clear hb1)
          |(go_at_call 52
            refine (Lo.Q6 _ _ _ _ _).mono ?_
            rintro e w2 ⟨rfl,hb2⟩;have z0:=(bV hb2 nx 0 (by omega)).trans y0;have z1:=(bV hb2 nx 1 (by omega)).trans y1;have zf0:=(Dt hb2 nx 0 (by omega)).trans yf0;have zf1:=(Dt hb2 nx 1 (by omega)).trans yf1;have HZ:=Lib.hid hb2;clear hb2))
         all_goals
          have hx2:w2.heap[nx]?=some (.cells #[.int .i64 x.1,.int .i64 x.2] 108):=(HZ.out.block nx (by omega)).trans ((HY.out.block nx (by show nx<wA.heap.size;omega)).trans HAX.out)
          have hg2:wr3.grownBy w2 (some nx):=sw (sw (sw (sw HG.out HGA.out (by simp)) (Lx wA none) (by simp)) (below_grown HY.out rfl none) (by simp)) (below_grown HZ.out rfl none) (by simp);exact hK _ ⟨(hg2.trans (mK _ _ _ _)).trans (mK _ _ _ _),Vt hx2⟩
        case h2=>
         rintro w2 ⟨hg2,hx2⟩;have Xt:=Lib.hid hx2;have HG2:=Lib.hid hg2;clear hx2 hg2 x0 x1 xf0 xf1 HXS;go_wp2;go_roundw
         case rel=>exact ⟨j+1,by omega,by go_num,by rw [HP.out];unfold bd1;rw [if_pos hp];exact Xt.out,HG2.out⟩
         case measure=>simp [intOf];omega
       ·have hpd:(sc.pile==(k:Int))=false:=by simpa using hp
        go_wp2;go_roundw
        case rel=>exact ⟨j+1,by omega,by go_num,by rw [HP.out];unfold bd1;rw [if_neg hp];exact (Below.heap_alloc _ _ _ (by omega)).trans HX.out,sw HG.out (World.grownBy_alloc _ _ (some nx)) (λj hj=>.inr (by simp at hj;simp [hj]))⟩
        case measure=>simp [intOf];omega
      ·obtain rfl:j=b.bT.length:=by omega
       rw [List.take_length] at hx;have hbq:Below (w.heap.size+1) W4 wr:=BH.out.grown hgr (by omega) (λj hj=>by simp at hj;omega)
       have hvn:v1.ownBlock=none∨v1.ownBlock≠some nx:=by
        cases e:v1.ownBlock with
        |none=>exact .inl rfl
        |some g=>exact .inr (by have :=(HV.out g e).2;simp;omega)
       have hw4:eu wr (w.heap.size+1) (w.heap.size+4) b.steps.length ((b.steps.length:Int)+1) (dz b k) v1:=⟨(hgr.block _ (by omega) (by simp;omega)).trans HW.out.blk,HW.out.row.kept hgr hvn,HW.out.pl.keep λg hg=>hgr.block g (by have :=(HV.out g hg).2;omega) (λe=>by have :=(HV.out g hg).2;simp at e;omega)⟩;have hm4:mI wr (w.heap.size+1+1) 1024 (dZ dJ.outs b.steps b.steps.length):=HM.out.kept hgr (by simp;omega);have Yx:mI wr (w.heap.size+1+1+1) 1024 (dZ dJ.ins b.steps b.steps.length):=HU.out.kept hgr (by simp;omega);have szr:=hgr.size;have hkey:keyOf Lo.prog 3 (.int .i64 (k:Int))=some (kI k):=keyOf_int_mk Lo.Iw (wfI (by omega) (by omega));obtain ⟨cm,hlk,hcm,_⟩:=hm4.drew.lookup_int Lo.Rs Lo.D7 Lo.Iw (Lo.Rt _) hkey;rw [NH] at hcm;have hcm:vS b.steps k=cm:=Rp hcm;have hmb:=NI b.steps k;have hub:=Rq b.steps k;have hps:qP b k=⟨(kr b.bT k).1,(kr b.bT k).2,(vS b.steps k).toNat,((uy b.steps k).getD b.steps.length).toNat⟩:=rfl;rw [hcm] at hmb hps;generalize kr b.bT k=x at *;obtain ⟨x0,x1,_,_⟩:=LA hx;obtain ⟨v0,_,_,vf0,_,_⟩:=iL hw4.blk;have x0d:wr.drew.cell? ⟨nx,0,none⟩=some (.int .i64 x.1):=x0;have x1d:wr.drew.cell? ⟨nx,1,none⟩=some (.int .i64 x.2):=x1;have v0d:wr.drew.cell? ⟨w.heap.size+1,0,none⟩=some v1:=v0;have v0a:∀o,(wr.alloc o).cell? ⟨w.heap.size+1,0,none⟩=some v1:= λo=>(World.cell?_alloc_past _ _ _ (by show w.heap.size+1<wr.heap.size;omega)).trans v0
       have HPS:=Lib.hid hps;have Xu:=Lib.hid hw4;have HM4:=Lib.hid hm4;have HU4:=Lib.hid Yx;have Rw:=Lib.hid hbq;have HUB:=Lib.hid hub;have HMB:=Lib.hid hmb;have hhas:=Rm (dZ dJ.ins b.steps b.steps.length) k;have Vv:=NH (dZ dJ.ins b.steps b.steps.length) k 0;have hlen:=gY b k;clear hx x0 x1 v0 hw4 hm4 hbq hgr HW HM HU BH hps hub hmb hcm hvn;cases Xv:uy b.steps k with
       |none=>
        have hd:Maps.has (Ae (dZ dJ.ins b.steps b.steps.length)) (kI k)=false:=by rw [hhas];unfold uy at Xv;rw [Xv];rfl
        clear hhas Vv
        go_wp2_with (first
         |(at_lookup;refine wpList_lookup_own_ok_int _ rfl _ _ 106 rfl 3 3 .i64 Lo.Rs Lo.D7 Lo.Iw (Lo.Rt _) (w.heap.size+1+1+1) _ _ rfl Yx _ _ rfl hkey ?_;intro c hat hwc;rw [hd];clear hat hwc)
         |go_in)
        have HLK:=Lib.hid hlk;have HU5:=Lib.hid Yx;have hsum:(dz b k).length+1<=64:=by omega
        rw [Xv] at HPS HUB;have hpc:=D9 HPS.out HMB.out.1 HUB.out.1;have Rx:=Lib.hid hpc;clear Yx hlk hd hkey hpc;have hlk2:=HLK.out;apply CG (λg cap wx=>eu wx (w.heap.size+1) (w.heap.size+4) b.steps.length ((b.steps.length:Int)+1) (dz b (k+1)) (.slice (some ⟨g,0,none⟩) (k+1) cap)∧mI wx (w.heap.size+1+1) 1024 (dZ dJ.outs b.steps b.steps.length)∧mI wx (w.heap.size+1+1+1) 1024 (dZ dJ.ins b.steps b.steps.length)∧Below (w.heap.size+1) W4 wx∧w.heap.size+4<=wx.heap.size)
        case h1=>
         intro Q' hK
         go_region_law ((refine Par.nu rfl (.tmp 102) (.tmp 109) 94 rfl (w.heap.size+4) 113 i0 (.agg #[.int .i64 0,.int .i64 0,.int .i64 0,.int .i64 0]) 4 32 Lo.JG hi hz0 hz1 hz2 rfl (by decide) v1 (dz b k).length (cellsS (dz b k)) rfl (Xu.out.row.drew.alloc _) ⟨wr.heap.size,0,none⟩ 1 1 [.int .i64 x.1,.int .i64 x.2,.int .i64 cm,.int .i64 (b.steps.length:Int)] rfl rfl (World.news_of_block (heap_alloc_new wr.drew _)) (by simp [Value.oneCell']) (by omega) (by unfold maxLen;omega) (by omega) (by simp;omega) (wr.heap.size+1) (by simp) ((show Par.cZ wr.drew v1 from Xu.out.pl).alloc _) (by intro u hu;simp at hu;rcases hu with rfl|rfl|rfl|rfl<;>rfl) (by intro u hu;simp [Value.cells] at hu;subst hu;rfl) ?_
                         intro g cap w1 hown1 hgrow hat hlt1 xD;have hbk:=NK Xu.out hgrow (by omega) (by omega);have c0:=(iL hbk).1;have f0:=(iL hbk).2.2.2.1;have yf:=Lib.hid hbk;have HOW:=Lib.hid hown1;have JK:=Lib.hid hgrow;have Ry:=Lib.hid xD;clear hbk hown1 hgrow hat xD))
         all_goals
          refine hK g cap _ ⟨?_,((HM4.out.drew.alloc _).kept JK.out ?_).kept (mK _ _ _ _) (λe=>by have :=aD e;omega),((HU5.out.drew.alloc _).kept JK.out ?_).kept (mK _ _ _ _) (λe=>by have :=aD e;omega),((Rw.out.drew.alloc (by show w.heap.size+1<=wr.heap.size;omega) _).grown JK.out (by simp;omega) (λj hj=>by have :=(HV.out j hj).1;omega)).setCell (aj _) _,?_⟩
          ·rw [Aj];have :=eu.step (ss:=dz b k) (news:=[qP b k]) (g:=g) (cap:=cap) (m:=k+1) yf.out (by rw [<-Rx.out];simpa [gY] using HOW.out) (by simp [gY]) (by simpa [gY] using Ry.out) (by omega);simpa [gY] using this
          ·intro e;have :=(HV.out _ e.symm).1;omega
          ·intro e;have :=(HV.out _ e.symm).1;omega
          ·have :=JK.out.size;simp [World.setCell] at this ⊢;omega
        case h2=>
         rintro g cap wx ⟨q1,q2,q3,q4,q5⟩;have Q1:=Lib.hid q1;have Q2:=Lib.hid q2;have Q3:=Lib.hid q3;have Q4:=Lib.hid q4;clear q1 q2 q3 q4 Xu HM4 HU5 Rw x0d x1d v0d v0a vf0 hlk2 HLK Rx HPS HUB HMB;go_wp2;go_roundw
         case rel=>exact ⟨k+1,_,by omega,by go_num,Q1.out,Q2.out,Q3.out,Q4.out,q5⟩
         case measure=>simp [intOf];omega
       |some iu=>
        have hd:Maps.has (Ae (dZ dJ.ins b.steps b.steps.length)) (kI k)=true:=by rw [hhas];unfold uy at Xv;rw [Xv];rfl
        have hiu:(lastOf (dZ dJ.ins b.steps b.steps.length) k).getD 0=iu:=by unfold uy at Xv;rw [Xv];rfl
        rw [hiu] at Vv;have HAT:=Lib.hid Vv;clear hhas Vv hiu
        go_wp2_with (first
         |(at_lookup;refine wpList_lookup_own_ok_int _ rfl _ _ 106 rfl 3 3 .i64 Lo.Rs Lo.D7 Lo.Iw (Lo.Rt _) (w.heap.size+1+1+1) _ _ rfl Yx _ _ rfl hkey ?_;intro c hat hwc;rw [hd];have Va:=Rp (HAT.out.symm.trans hat);have Yy:=Lib.hid Va;clear hat hwc Va)
         |go_in)
        have HLK:=Lib.hid hlk;have HU5:=Lib.hid Yx;have hsum:(dz b k).length+1<=64:=by omega
        rw [Xv,Yy.out] at HPS HUB;have hpc:=D9 HPS.out HMB.out.1 HUB.out.1;have Rx:=Lib.hid hpc;clear Yx hlk hd hkey hpc;have hlk2:=HLK.out;apply CG (λg cap wx=>eu wx (w.heap.size+1) (w.heap.size+4) b.steps.length ((b.steps.length:Int)+1) (dz b (k+1)) (.slice (some ⟨g,0,none⟩) (k+1) cap)∧mI wx (w.heap.size+1+1) 1024 (dZ dJ.outs b.steps b.steps.length)∧mI wx (w.heap.size+1+1+1) 1024 (dZ dJ.ins b.steps b.steps.length)∧Below (w.heap.size+1) W4 wx∧w.heap.size+4<=wx.heap.size)
        case h1=>
         intro Q' hK
         go_region_law ((refine Par.nu rfl (.tmp 102) (.tmp 109) 94 rfl (w.heap.size+4) 113 i0 (.agg #[.int .i64 0,.int .i64 0,.int .i64 0,.int .i64 0]) 4 32 Lo.JG hi hz0 hz1 hz2 rfl (by decide) v1 (dz b k).length (cellsS (dz b k)) rfl (Xu.out.row.drew.alloc _) ⟨wr.heap.size,0,none⟩ 1 1 [.int .i64 x.1,.int .i64 x.2,.int .i64 cm,.int .i64 c] rfl rfl (World.news_of_block (heap_alloc_new wr.drew _)) (by simp [Value.oneCell']) (by omega) (by unfold maxLen;omega) (by omega) (by simp;omega) (wr.heap.size+1) (by simp) ((show Par.cZ wr.drew v1 from Xu.out.pl).alloc _) (by intro u hu;simp at hu;rcases hu with rfl|rfl|rfl|rfl<;>rfl) (by intro u hu;simp [Value.cells] at hu;subst hu;rfl) ?_
                         intro g cap w1 hown1 hgrow hat hlt1 xD;have hbk:=NK Xu.out hgrow (by omega) (by omega);have c0:=(iL hbk).1;have f0:=(iL hbk).2.2.2.1;have yf:=Lib.hid hbk;have HOW:=Lib.hid hown1;have JK:=Lib.hid hgrow;have Ry:=Lib.hid xD;clear hbk hown1 hgrow hat xD))
         all_goals
          refine hK g cap _ ⟨?_,((HM4.out.drew.alloc _).kept JK.out ?_).kept (mK _ _ _ _) (λe=>by have :=aD e;omega),((HU5.out.drew.alloc _).kept JK.out ?_).kept (mK _ _ _ _) (λe=>by have :=aD e;omega),((Rw.out.drew.alloc (by show w.heap.size+1<=wr.heap.size;omega) _).grown JK.out (by simp;omega) (λj hj=>by have :=(HV.out j hj).1;omega)).setCell (aj _) _,?_⟩
          ·rw [Aj];have :=eu.step (ss:=dz b k) (news:=[qP b k]) (g:=g) (cap:=cap) (m:=k+1) yf.out (by rw [<-Rx.out];simpa [gY] using HOW.out) (by simp [gY]) (by simpa [gY] using Ry.out) (by omega);simpa [gY] using this
          ·intro e;have :=(HV.out _ e.symm).1;omega
          ·intro e;have :=(HV.out _ e.symm).1;omega
          ·have :=JK.out.size;simp [World.setCell] at this ⊢;omega
        case h2=>
         rintro g cap wx ⟨q1,q2,q3,q4,q5⟩;have Q1:=Lib.hid q1;have Q2:=Lib.hid q2;have Q3:=Lib.hid q3;have Q4:=Lib.hid q4;clear q1 q2 q3 q4 Xu HM4 HU5 Rw x0d x1d v0d v0a vf0 hlk2 HLK Rx HPS HUB HMB;go_wp2;go_roundw
         case rel=>exact ⟨k+1,_,by omega,by go_num,Q1.out,Q2.out,Q3.out,Q4.out,q5⟩
         case measure=>simp [intOf];omega
    ·obtain rfl:k=b.bQ.length:=by omega
     have HW:=Lib.hid uz;have BH:=Lib.hid hbl;have c02:wr.cell? ⟨w.heap.size,2,none⟩=some (.slice jT b.steps.length cs):=FJ.out wr hbl 2;have hv1:=uz.row.lt;have HV:=Lib.hid hv1;clear uz hmk Rv hbl hv1;go_wp2;generalize wr=wr5 at *;have hsz5:=hsz
     go_loopw [117] (λi wr=>∃k:Nat,∃v:Value,k<=b.steps.length∧i= .int .i64 (k:Int)∧eu wr (w.heap.size+1) (w.heap.size+4) b.steps.length ((b.steps.length:Int)+1) (dz b b.bQ.length++dR b hand k) v∧Below (w.heap.size+1) W4 wr∧w.heap.size+4<=wr.heap.size) (λi _=>b.steps.length - (intOf i).toNat)
     case atStart=>exact ⟨0,_,aL _,rfl,by simpa [dR] using HW.out,BH.out,hsz5⟩
     case round=>
      obtain ⟨k,v2,hk,rfl,uz,hbl,hsz⟩:=hrel;clear HW BH HV
      by_cases hlt:k<b.steps.length
      ·have hlt':(k:Int)<(b.steps.length:Int):=by omega
       have hkp:=HK.out wr (hbl.mono (by omega));obtain ⟨bb,off,rfl,hbb,hc⟩:=h3.keep hkp (by omega);obtain ⟨k0,k1,k2,k3,k4,k5,k6⟩:=Ip hc hlt
       have hst:dR b hand (k+1)=dR b hand k++qQ b.steps.length hand k b.steps[k]:=by
        show dR b hand k++_=_;rw [ax hlt]
       have hlen:=tO b hand k (by omega);generalize b.steps[k]=s at *;have HST:=Lib.hid hst;have HW:=Lib.hid uz;have BH:=Lib.hid hbl;have hv2:=uz.row.lt;have HV:=Lib.hid hv2;clear hkp hc hst uz hbl hv2
       by_cases hh1:s.hand=hand
       ·have hhd:(s.hand==hand)=true:=by simpa using hh1
        go_wp2;generalize JJ:wr.alloc (.cells #[.int .i64 hand,.slice (sv k).a1 s.ins.length (sv k).c1,.slice (sv k).a2 s.outs.length (sv k).c2,.int .i64 s.g0,.int .i64 s.g1,.int .i64 s.l0,.int .i64 s.l1] 69)=wA;have szA:wA.heap.size=wr.heap.size+1:=by subst JJ;simp
        have a9:∀j:Nat,wA.cell? ⟨wr.heap.size,j,none⟩=(#[Value.int .i64 hand,.slice (sv k).a1 s.ins.length (sv k).c1,.slice (sv k).a2 s.outs.length (sv k).c2,.int .i64 s.g0,.int .i64 s.g1,.int .i64 s.l0,.int .i64 s.l1]:Array Value)[j]?:=by subst JJ;intro j;rw [World.cell?_alloc_at _ _ _ _ rfl]
        have a3:wA.cell? ⟨wr.heap.size,3,none⟩=some (.int .i64 s.g0):=a9 3;have a4:wA.cell? ⟨wr.heap.size,3+1,none⟩=some (.int .i64 s.g1):=a9 4;have a5:wA.cell? ⟨wr.heap.size,5,none⟩=some (.int .i64 s.l0):=a9 5;have a6:wA.cell? ⟨wr.heap.size,5+1,none⟩=some (.int .i64 s.l1):=a9 6;have Yz:eu wA (w.heap.size+1) (w.heap.size+4) b.steps.length ((b.steps.length:Int)+1) (dz b b.bQ.length++dR b hand k) v2:=by subst JJ;exact HW.out.alloc (by omega) _
        have hBA:Below (w.heap.size+1) W4 wA:=by subst JJ;exact BH.out.alloc (by omega) _
        have v0:=(iL Yz.blk).1;have hpc:=step_cells (n:=b.steps.length) (k:=k) (hand:=hand) (s:=s) (tv:=(b.steps.length:Int)+1) (by rw [if_pos hh1];simp);have hln:(dz b b.bQ.length++dR b hand k).length=b.bQ.length+2*k:=by rw [List.length_append,gY,hlen]
        have hSA:Ru wr.heap.size s wA:=⟨a3,a4,a5,a6⟩;have SA:=Lib.hid hSA;have WA:=Lib.hid Yz;have BA:=Lib.hid hBA;have Rx:=Lib.hid hpc;clear JJ a9 hSA Yz hBA HW BH hpc k0 k1 k2 k3 k4 k5 k6;generalize wr.heap.size=nr at *;apply CJ (λg cap q wx=>eu wx (w.heap.size+1) (w.heap.size+4) b.steps.length ((b.steps.length:Int)+1) (dz b b.bQ.length++dR b hand (k+1)) (.slice (some ⟨g,0,none⟩) (b.bQ.length+2*k+2) cap)∧Below (w.heap.size+1) W4 wx∧w.heap.size+4<=wx.heap.size)
        case h1=>
         intro Q' hK
         go_region_law (first
          |(refine Par.nu rfl (.tmp 133) (.tmp 146) 94 rfl (w.heap.size+4) 113 i0 (.agg #[.int .i64 0,.int .i64 0,.int .i64 0,.int .i64 0]) 4 32 Lo.JG hi hz0 hz1 hz2 rfl (by decide) v2 (dz b b.bQ.length++dR b hand k).length (cellsS (dz b b.bQ.length++dR b hand k)) rfl (ZW.out.row.alloc _) ⟨w2.heap.size,0,none⟩ 2 2 [.int .i64 s.g0,.int .i64 s.g1,.int .i64 (b.steps.length:Int),.int .i64 (k:Int),.int .i64 s.l0,.int .i64 s.l1,.int .i64 (k:Int),.int .i64 ((b.steps.length:Int)+1)] rfl rfl (World.news_of_block (heap_alloc_new w2 _)) (by simp [Value.oneCell']) (by omega) (by unfold maxLen;omega) (by omega) (by simp;omega) (w2.heap.size+1) (by simp) (ZW.out.pl.alloc _) (by intro u hu;simp at hu;rcases hu with rfl|rfl|rfl|rfl|rfl|rfl|rfl|rfl<;>rfl) (by intro u hu;simp [Value.cells] at hu;subst hu;rfl) ?_
            intro g cap w3 hown1 hgrow hat hlt1 xD;have hbk:=JH ZW.out hgrow (by omega) (by omega);have S3:=Lib.hid (Ru.keep SZ.out ((hgrow.block nr (by simp;omega) (λe=>by have :=(HV.out nr e.symm).2;omega)).trans (Below.heap_alloc _ _ _ (by omega))));have c0:=(iL hbk).1;have f0:=(iL hbk).2.2.2.1;have yf:=Lib.hid hbk;have HOW:=Lib.hid hown1;have JK:=Lib.hid hgrow;have Ry:=Lib.hid xD;clear hbk hown1 hgrow hat xD)
          |(go_simp
            go_at_call 53
            refine (Lo.ni _ _ _).mono ?_
            rintro e w2 ⟨rfl,hb2⟩;have SZ:=Lib.hid (Ru.keep SY.out (hb2.block nr (by omega)));have z0:=(bV hb2 (w.heap.size+1) 0 (by omega)).trans y0;have zs:w1.heap.size<=w2.heap.size:=hb2.size;have za:∀o,(w2.alloc o).cell? ⟨w.heap.size+1,0,none⟩=some v2:= λo=>(World.cell?_alloc_past _ _ _ (by show w.heap.size+1<w2.heap.size;omega)).trans z0
            have ZW:=Lib.hid (YW.out.below hb2 rfl (by omega));have ZB:=Lib.hid (YB.out.trans (hb2.mono (by omega)));clear hb2)
          |(go_simp
            go_at_call 53
            refine (Lo.ni _ _ _).mono ?_
            rintro e w1 ⟨rfl,hb1⟩;have y0:=(bV hb1 (w.heap.size+1) 0 (by show w.heap.size+1<wA.heap.size;omega)).trans v0;have y5:=(bV hb1 nr 5 (by show nr<wA.heap.size;omega)).trans a5;have y6:=(bV hb1 nr (5+1) (by show nr<wA.heap.size;omega)).trans a6;have SY:=Lib.hid (Ru.keep SA.out (hb1.block nr (by show nr<wA.heap.size;omega)));have ys:wA.heap.size<=w1.heap.size:=hb1.size;have YW:=Lib.hid (eu.below (w:=wA.drew) (⟨WA.out.blk,WA.out.row.drew,WA.out.pl⟩:eu wA.drew _ _ _ _ _ _) hb1 rfl (by show w.heap.size+1<wA.heap.size;omega));have YB:=Lib.hid (BA.out.drew.trans (hb1.mono (by show w.heap.size+1<=wA.heap.size;omega)));clear hb1))
         all_goals
          generalize w2.heap.size=q;refine hK g cap q _ ⟨?_,((ZB.out.alloc (by omega) _).grown JK.out (by simp;omega) (λj hj=>by have :=(HV.out j hj).1;omega)).setCell (p:=⟨w.heap.size+1,0,none⟩) (aj _) _,?_⟩
          ·rw [HST.out, <-List.append_assoc];have :=eu.step (ss:=dz b b.bQ.length++dR b hand k) (news:=qQ b.steps.length hand k s) (g:=g) (cap:=cap) (m:=b.bQ.length+2*k+2) yf.out (by rw [<-Rx.out];simpa only [hln] using HOW.out) (by rw [hln];rfl) (by simpa only [hln] using Ry.out) (by omega);simpa only [hln] using this
          ·have :=JK.out.size;simp [World.setCell] at this ⊢;omega
        case h2=>
         rintro g cap q wx ⟨q1,q4,q5⟩;have Q1:=Lib.hid q1;have Q4:=Lib.hid q4;clear q1 q4 WA BA Rx HST v0 a3 a4 a5 a6;go_wp2;go_roundw
         case rel=>exact ⟨k+1,_,by omega,by go_num,Q1.out,Q4.out,q5⟩
         case measure=>simp [intOf];omega
       ·have hhd:(s.hand==hand)=false:=by simpa using hh1
        go_wp2;generalize JJ:wr.alloc (.cells #[.int .i64 s.hand,.slice (sv k).a1 s.ins.length (sv k).c1,.slice (sv k).a2 s.outs.length (sv k).c2,.int .i64 s.g0,.int .i64 s.g1,.int .i64 s.l0,.int .i64 s.l1] 69)=wA;have szA:wA.heap.size=wr.heap.size+1:=by subst JJ;simp
        have a9:∀j:Nat,wA.cell? ⟨wr.heap.size,j,none⟩=(#[Value.int .i64 s.hand,.slice (sv k).a1 s.ins.length (sv k).c1,.slice (sv k).a2 s.outs.length (sv k).c2,.int .i64 s.g0,.int .i64 s.g1,.int .i64 s.l0,.int .i64 s.l1]:Array Value)[j]?:=by subst JJ;intro j;rw [World.cell?_alloc_at _ _ _ _ rfl]
        have a3:wA.cell? ⟨wr.heap.size,3,none⟩=some (.int .i64 s.g0):=a9 3;have a4:wA.cell? ⟨wr.heap.size,3+1,none⟩=some (.int .i64 s.g1):=a9 4;have a5:wA.cell? ⟨wr.heap.size,5,none⟩=some (.int .i64 s.l0):=a9 5;have a6:wA.cell? ⟨wr.heap.size,5+1,none⟩=some (.int .i64 s.l1):=a9 6;have Yz:eu wA (w.heap.size+1) (w.heap.size+4) b.steps.length ((b.steps.length:Int)+1) (dz b b.bQ.length++dR b hand k) v2:=by subst JJ;exact HW.out.alloc (by omega) _
        have hBA:Below (w.heap.size+1) W4 wA:=by subst JJ;exact BH.out.alloc (by omega) _
        have v0:=(iL Yz.blk).1;have hpc:=step_cells (n:=b.steps.length) (k:=k) (hand:=hand) (s:=s) (tv:=(b.steps.length:Int)) (by rw [if_neg hh1]);have hln:(dz b b.bQ.length++dR b hand k).length=b.bQ.length+2*k:=by rw [List.length_append,gY,hlen]
        have hSA:Ru wr.heap.size s wA:=⟨a3,a4,a5,a6⟩;have SA:=Lib.hid hSA;have WA:=Lib.hid Yz;have BA:=Lib.hid hBA;have Rx:=Lib.hid hpc;clear JJ a9 hSA Yz hBA HW BH hpc k0 k1 k2 k3 k4 k5 k6;generalize wr.heap.size=nr at *;apply CJ (λg cap q wx=>eu wx (w.heap.size+1) (w.heap.size+4) b.steps.length ((b.steps.length:Int)+1) (dz b b.bQ.length++dR b hand (k+1)) (.slice (some ⟨g,0,none⟩) (b.bQ.length+2*k+2) cap)∧Below (w.heap.size+1) W4 wx∧w.heap.size+4<=wx.heap.size)
        case h1=>
         intro Q' hK
         go_region_law (first
          |(refine Par.nu rfl (.tmp 133) (.tmp 146) 94 rfl (w.heap.size+4) 113 i0 (.agg #[.int .i64 0,.int .i64 0,.int .i64 0,.int .i64 0]) 4 32 Lo.JG hi hz0 hz1 hz2 rfl (by decide) v2 (dz b b.bQ.length++dR b hand k).length (cellsS (dz b b.bQ.length++dR b hand k)) rfl (ZW.out.row.alloc _) ⟨w2.heap.size,0,none⟩ 2 2 [.int .i64 s.g0,.int .i64 s.g1,.int .i64 (b.steps.length:Int),.int .i64 (k:Int),.int .i64 s.l0,.int .i64 s.l1,.int .i64 (k:Int),.int .i64 ((b.steps.length:Int))] rfl rfl (World.news_of_block (heap_alloc_new w2 _)) (by simp [Value.oneCell']) (by omega) (by unfold maxLen;omega) (by omega) (by simp;omega) (w2.heap.size+1) (by simp) (ZW.out.pl.alloc _) (by intro u hu;simp at hu;rcases hu with rfl|rfl|rfl|rfl|rfl|rfl|rfl|rfl<;>rfl) (by intro u hu;simp [Value.cells] at hu;subst hu;rfl) ?_
            intro g cap w3 hown1 hgrow hat hlt1 xD;have hbk:=JH ZW.out hgrow (by omega) (by omega);have S3:=Lib.hid (Ru.keep SZ.out ((hgrow.block nr (by simp;omega) (λe=>by have :=(HV.out nr e.symm).2;omega)).trans (Below.heap_alloc _ _ _ (by omega))));have c0:=(iL hbk).1;have f0:=(iL hbk).2.2.2.1;have yf:=Lib.hid hbk;have HOW:=Lib.hid hown1;have JK:=Lib.hid hgrow;have Ry:=Lib.hid xD;clear hbk hown1 hgrow hat xD)
          |(go_simp
            go_at_call 53
            refine (Lo.ni _ _ _).mono ?_
            rintro e w2 ⟨rfl,hb2⟩;have SZ:=Lib.hid (Ru.keep SY.out (hb2.block nr (by omega)));have z0:=(bV hb2 (w.heap.size+1) 0 (by omega)).trans y0;have zs:w1.heap.size<=w2.heap.size:=hb2.size;have za:∀o,(w2.alloc o).cell? ⟨w.heap.size+1,0,none⟩=some v2:= λo=>(World.cell?_alloc_past _ _ _ (by show w.heap.size+1<w2.heap.size;omega)).trans z0
            have ZW:=Lib.hid (YW.out.below hb2 rfl (by omega));have ZB:=Lib.hid (YB.out.trans (hb2.mono (by omega)));clear hb2)
          |(go_simp
            go_at_call 53
            refine (Lo.ni _ _ _).mono ?_
            rintro e w1 ⟨rfl,hb1⟩;have y0:=(bV hb1 (w.heap.size+1) 0 (by show w.heap.size+1<wA.heap.size;omega)).trans v0;have y5:=(bV hb1 nr 5 (by show nr<wA.heap.size;omega)).trans a5;have y6:=(bV hb1 nr (5+1) (by show nr<wA.heap.size;omega)).trans a6;have SY:=Lib.hid (Ru.keep SA.out (hb1.block nr (by show nr<wA.heap.size;omega)));have ys:wA.heap.size<=w1.heap.size:=hb1.size;have YW:=Lib.hid (eu.below (w:=wA.drew) (⟨WA.out.blk,WA.out.row.drew,WA.out.pl⟩:eu wA.drew _ _ _ _ _ _) hb1 rfl (by show w.heap.size+1<wA.heap.size;omega));have YB:=Lib.hid (BA.out.drew.trans (hb1.mono (by show w.heap.size+1<=wA.heap.size;omega)));clear hb1))
         all_goals
          generalize w2.heap.size=q;refine hK g cap q _ ⟨?_,((ZB.out.alloc (by omega) _).grown JK.out (by simp;omega) (λj hj=>by have :=(HV.out j hj).1;omega)).setCell (p:=⟨w.heap.size+1,0,none⟩) (aj _) _,?_⟩
          ·rw [HST.out, <-List.append_assoc];have :=eu.step (ss:=dz b b.bQ.length++dR b hand k) (news:=qQ b.steps.length hand k s) (g:=g) (cap:=cap) (m:=b.bQ.length+2*k+2) yf.out (by rw [<-Rx.out];simpa only [hln] using HOW.out) (by rw [hln];rfl) (by simpa only [hln] using Ry.out) (by omega);simpa only [hln] using this
          ·have :=JK.out.size;simp [World.setCell] at this ⊢;omega
        case h2=>
         rintro g cap q wx ⟨q1,q4,q5⟩;have Q1:=Lib.hid q1;have Q4:=Lib.hid q4;clear q1 q4 WA BA Rx HST v0 a3 a4 a5 a6;go_wp2;go_roundw
         case rel=>exact ⟨k+1,_,by omega,by go_num,Q1.out,Q4.out,q5⟩
         case measure=>simp [intOf];omega
      ·obtain rfl:k=b.steps.length:=by omega
       have hln:(dz b b.bQ.length++dR b hand b.steps.length).length=b.bQ.length+2*b.steps.length:=by rw [List.length_append,gY,tO b hand _ (aj _)]
       obtain ⟨v0,v1c,v2c,vf0,vf1,vf2⟩:=iL uz.blk;have hv2:=uz.row.lt;have HV:=Lib.hid hv2;have HW:=Lib.hid uz;have BH:=Lib.hid hbl;clear uz hbl hv2
       by_cases h0:0<=hand
       ·have hd0:decide (0<=hand)=true:=by simpa using h0
        have hw2:(wr.setCell ⟨w.heap.size+1,2,none⟩ (.int .i64 ((b.steps.length:Int)+1+1))).heap[w.heap.size+1]?=some (.cells #[v2,.int .i64 (b.steps.length:Int),.int .i64 ((b.steps.length:Int)+1+1)] 96):=LC HW.out.blk
        obtain ⟨w0,_,_,wf0,_,_⟩:=iL hw2
        have hrow:(wr.setCell ⟨w.heap.size+1,2,none⟩ (.int .i64 ((b.steps.length:Int)+1+1))).ownsRow (w.heap.size+4) 113 4 v2 (dz b b.bQ.length++dR b hand b.steps.length).length (cellsS (dz b b.bQ.length++dR b hand b.steps.length)):=HW.out.row.kept (mK _ _ _ _) (by
         cases e:v2.ownBlock with
         |none=>exact .inl rfl
         |some g=>exact .inr (by have :=(HV.out g e).1;simp;omega))
        have ae6:Par.cZ (wr.setCell ⟨w.heap.size+1,2,none⟩ (.int .i64 ((b.steps.length:Int)+1+1))) v2:=HW.out.pl.keep λg hg=>Below.heap_setCell _ _ _ _ (by have :=(HV.out g hg).1;show g≠w.heap.size+1;omega)
        have hbw:Below (w.heap.size+1) W4 (wr.setCell ⟨w.heap.size+1,2,none⟩ (.int .i64 ((b.steps.length:Int)+1+1))):=BH.out.setCell (p:=⟨w.heap.size+1,2,none⟩) (aj _) _;have au8:(wr.setCell ⟨w.heap.size+1,2,none⟩ (.int .i64 ((b.steps.length:Int)+1+1))).heap.size=wr.heap.size:=by simp [World.setCell]
        have H2:=Lib.hid hw2;have HR:=Lib.hid hrow;have Ry:=Lib.hid ae6;have Xr:=Lib.hid hbw;clear hw2 hrow ae6 hbw
        go_wp2_with (first
         |(at_builtin;refine Par.BD rfl (.tmp 164) (.tmp 170) 94 rfl (w.heap.size+4) 113 i0 (.agg #[.int .i64 0,.int .i64 0,.int .i64 0,.int .i64 0]) 4 32 Lo.JG hi hz0 hz1 hz2 rfl (by decide) v2 (dz b b.bQ.length++dR b hand b.steps.length).length (cellsS (dz b b.bQ.length++dR b hand b.steps.length)) rfl (HR.out.alloc _) ⟨wr.heap.size,0,none⟩ 1 1 [.int .i64 0,.int .i64 8000000,.int .i64 ((b.steps.length:Int)+1),.int .i64 (b.steps.length:Int)] rfl rfl ?c1 (by simp [Value.oneCell']) (by omega) (by unfold maxLen;omega) (by omega) (by simp;omega) (wr.heap.size+1) (by simp) (Ry.out.alloc _) (by intro u hu;simp at hu;rcases hu with rfl|rfl|rfl|rfl<;>rfl) (by intro u hu;simp [Value.cells] at hu;subst hu;rfl) ?c2)
         |go_in)
        case c1=>
         have :=World.news_of_block (heap_alloc_new (wr.setCell ⟨w.heap.size+1,2,none⟩ (.int .i64 ((b.steps.length:Int)+1+1))) (.cells #[.int .i64 0,.int .i64 8000000,.int .i64 ((b.steps.length:Int)+1),.int .i64 (b.steps.length:Int)] 113));simpa using this
        intro g cap w3 hown1 hgrow hat hlt1 xD;have hbk:=(hgrow.block (w.heap.size+1) (by simp;omega) (λe=>by have :=(HV.out _ e.symm).1;omega)).trans ((Below.heap_alloc _ _ _ (by omega)).trans H2.out);have c0:=(iL hbk).1;have f0:=(iL hbk).2.2.2.1;have hgs:=hgrow.size;have yf:=Lib.hid hbk;have HOW:=Lib.hid hown1;have JK:=Lib.hid hgrow;have ao3:=Lib.hid xD;clear hbk hown1 hgrow hat xD w0 wf0;go_wp2;go_ret;have hwl:dO b hand=(dz b b.bQ.length++dR b hand b.steps.length)++ [⟨0,8000000,b.steps.length+1,b.steps.length⟩]:=by unfold dO;rw [if_pos h0]
        have hnd:(dm b hand:Int)=(b.steps.length:Int)+1+1:=by unfold dm;rw [if_pos h0];simp;omega
        have hfin:=(eu.step (g:=g) (cap:=cap) (m:=b.bQ.length+2*b.steps.length+1) (ss:=dz b b.bQ.length++dR b hand b.steps.length) (news:=[⟨0,8000000,b.steps.length+1,b.steps.length⟩]) yf.out (by simpa [cellsS,hln] using HOW.out) (by rw [hln];rfl) (by simpa [hln] using ao3.out) (by omega)).base (show w.heap.size<=w.heap.size+4 by omega);have hbe:=((((Xr.out.alloc (by omega) _).grown JK.out (by simp;omega) (λj hj=>by have :=(HV.out j hj).1;omega)).setCell (p:=⟨w.heap.size+1,0,none⟩) (aj _) (.slice (some ⟨g,0,none⟩) (b.bQ.length+2*b.steps.length+1) cap)).mono (show w.heap.size<=w.heap.size+1 by omega));rw [<-hwl, <-hnd] at hfin;refine ⟨w.heap.size+1,.slice (some ⟨g,0,none⟩) (b.bQ.length+2*b.steps.length+1) cap,rfl,by omega,by simp [World.setCell] at hgs ⊢;omega,?_,?_⟩
        ·exact hfin
        ·exact yF.out.trans hbe
       ·have hd0:decide (0<=hand)=false:=by simpa using h0
        clear v0 v1c v2c vf0 vf1 vf2;go_wp2;go_ret;have hwl:dO b hand=dz b b.bQ.length++dR b hand b.steps.length:=by unfold dO;rw [if_neg (by omega),List.append_nil]
        have hnd:(dm b hand:Int)=(b.steps.length:Int)+1:=by unfold dm;rw [if_neg (by omega)];simp
        exact ⟨w.heap.size+1,v2,rfl,by omega,by omega,by rw [hwl,hnd];exact HW.out.base (by omega),yF.out.trans (BH.out.mono (by omega))⟩
end Go.Proofs
