/- Part 20. -/
import Derived.Test.YtnemnkmojiljmaaGreatG19
set_option maxRecDepth 100000
set_option maxHeartbeats 0
set_option linter.all false
namespace Go.Proofs
open Go Go.RowKit Go.Maps
variable [Lo.St]
theorem Lo.JO {w:World} {B:Nat} {b:dY} {v:gK} (hb:fJ w B b v) (hB:B<=w.heap.size) (hg:b.good) (hand:Int) (hh: -1<=hand∧hand<=64):
 Calls Lo.prog 56 #[eH b v,.int .i64 hand] w (YI w b hand):=by
 obtain ⟨U,U2,U3,U4,U5,U6⟩:=Lo.facts;have C:=Lo.call Tryz.func88;have C2:=Lo.call Tryz.func87;have hmm:=@run_makeMap Lo.prog;obtain ⟨i0,hi,hz0,hz1,hz2⟩:=info_parts Lo.YG;have hn8:=hg.n8;have ap9:=hg.p12;have hsc:=hg.dJ;obtain ⟨h1,h2,h3,h4,h5,h6,_⟩:=hb;unfold eH;generalize v.ah=ah at h1 ⊢;generalize v.ch=ch;generalize v.ap=ap at h2 ⊢;generalize v.cp=cp;generalize v.jY=jY at h3 ⊢;generalize v.cs=cs;generalize v.ac=ac at h6 ⊢;generalize v.cc=cc;generalize v.sv=sv at h3 h4 h5;go_enter Lo.get Tryz.func56,Tryz.ntmps56;go_wp2;generalize hW4:((((w.alloc (.cells #[.slice ah b.dR.length ch,.slice ap b.dF.length cp,.slice jY b.steps.length cs,.slice ac b.dJ.length cc] 26)).alloc (.cells #[.slice none 0 0,.int .i64 (b.steps.length:Int),.int .i64 ((b.steps.length:Int)+1)] 114)).alloc (.map #[] 0)).alloc (.map #[] 0))=W4;have sz4:W4.heap.size=w.heap.size+4:=by subst hW4;simp
 have OW:Below w.heap.size w W4:=by
  subst hW4;exact (((((dz _ _).alloc (aJ _) _).alloc (by simp) _).alloc (by simp;omega) _).alloc (by simp;omega) _)
 have mk4:mI W4 (w.heap.size+1+1) 0 []:=by
  subst hW4;have :=(World.ownsMap_made (H:=Unit) ((w.alloc (.cells #[.slice ah b.dR.length ch,.slice ap b.dF.length cp,.slice jY b.steps.length cs,.slice ac b.dJ.length cc] 26)).alloc (.cells #[.slice none 0 0,.int .i64 (b.steps.length:Int),.int .i64 ((b.steps.length:Int)+1)] 114)) Lo.prog 3 (plainElem Lo.prog 3)).alloc (.map #[] 0);simpa [mI,Dj] using this
 have us4:mI W4 (w.heap.size+1+1+1) 0 []:=by
  subst hW4;have :=World.ownsMap_made (H:=Unit) (((w.alloc (.cells #[.slice ah b.dR.length ch,.slice ap b.dF.length cp,.slice jY b.steps.length cs,.slice ac b.dJ.length cc] 26)).alloc (.cells #[.slice none 0 0,.int .i64 (b.steps.length:Int),.int .i64 ((b.steps.length:Int)+1)] 114)).alloc (.map #[] 0)) Lo.prog 3 (plainElem Lo.prog 3);simpa [mI,Dj] using this
 have bk4:∀j:Nat,W4.cell? ⟨w.heap.size,j,none⟩=(#[Value.slice ah b.dR.length ch,.slice ap b.dF.length cp,.slice jY b.steps.length cs,.slice ac b.dJ.length cc]:Array Value)[j]?:=by
  subst hW4;intro j;rw [dx _ _ _ (by simp;omega),dx _ _ _ (by simp;omega),dx _ _ _ (by simp),dm _ _ _ _ rfl]
 have bw4:W4.heap[w.heap.size+1]?=some (.cells #[.slice none 0 0,.int .i64 (b.steps.length:Int),.int .i64 ((b.steps.length:Int)+1)] 114):=by
  subst hW4;rw [dw _ _ _ (by simp),dw _ _ _ (by simp)];have :=heap_alloc_new (w.alloc (.cells #[.slice ah b.dR.length ch,.slice ap b.dF.length cp,.slice jY b.steps.length cs,.slice ac b.dJ.length cc] 26)) (.cells #[.slice none 0 0,.int .i64 (b.steps.length:Int),.int .i64 ((b.steps.length:Int)+1)] 114);simpa using this
 have hkeep:∀wr,Below (w.heap.size+1) W4 wr->∀b o,b<B->wr.cell? ⟨b,o,none⟩=w.cell? ⟨b,o,none⟩:= λwr hx b o hb=>(dP hx b o (by omega)).trans (dP OW b o (by omega))
 clear hW4;have HK:=dB hkeep;have Al:=dB bk4;have HBW:=dB bw4;have AL:=dB OW;clear hkeep bk4 bw4 OW
 go_loopw [37] (λi wr=>∃k:Nat,k<=b.steps.length∧i= .int .i64 (k:Int)∧mI wr (w.heap.size+1+1) (64*k) (gB eY.outs b.steps k)∧mI wr (w.heap.size+1+1+1) (64*k) (gB eY.ins b.steps k)∧Below (w.heap.size+2) W4 wr) (λi _=>b.steps.length - (intOf i).toNat)
 case atStart=>exact ⟨0,bq _,rfl,mk4,us4,dz _ _⟩
 case round=>
  obtain ⟨k,hk,rfl,hmk,VF,hbl⟩:=hrel;clear mk4 us4
  by_cases hlt:k<b.steps.length
  ·have hlt':(k:Int)<(b.steps.length:Int):=by omega
   have hkp:=HK.out wr (hbl.mono (by omega));obtain ⟨bb,off,rfl,hbb,hc⟩:=h3.keep hkp (by omega);obtain ⟨k0,k1,k2,k3,k4,k5,k6⟩:=yL hc hlt;have hsi:=hg.ins _ (aY hlt);have hso:=hg.outs _ (aY hlt);have hki:=hg.ki _ (aY hlt);have hko:=hg.ko _ (aY hlt);have hri:=h4 k _ (aO hlt);have hro:=h5 k _ (aO hlt);have pmi:=EY eY.ins b.steps k hlt;have pmo:=EY eY.outs b.steps k hlt;generalize b.steps[k]=s at *;generalize s.ins=li at *;generalize s.outs=lo at *;generalize (sv k).a1=a1 at *;generalize (sv k).a2=a2 at *;have HKP:=dB hkp;clear hkp;have sz:=hbl.size;have HM:=dB hmk;have HU:=dB VF;have En:=dB hbl;clear hmk VF hbl hc h3 h4 h5 h6 h1 h2;go_wp2;generalize xO:wr.alloc (.cells #[.int .i64 s.hand,.slice a1 li.length (sv k).c1,.slice a2 lo.length (sv k).c2,.int .i64 s.g0,.int .i64 s.g1,.int .i64 s.l0,.int .i64 s.l1] 53)=Qv;have sz1:Qv.heap.size=wr.heap.size+1:=by subst xO;simp
   have c2:Qv.cell? ⟨wr.heap.size,2,none⟩=some (.slice a2 lo.length (sv k).c2):=by subst xO;rw [dm _ _ _ _ rfl];rfl
   have hm1:mI Qv (w.heap.size+1+1) (64*k) (gB eY.outs b.steps k):=by subst xO;exact HM.out.alloc _
   have hu1:mI Qv (w.heap.size+1+1+1) (64*k) (gB eY.ins b.steps k):=by subst xO;exact HU.out.alloc _
   have hb1:Below (w.heap.size+2) W4 Qv:=by subst xO;exact En.out.alloc (by omega) _
   clear xO HM HU En k0 k1 k2 k3 k4 k5 k6;generalize wr.heap.size=n1 at *;have C2':=dB c2;have HM:=dB hm1;have HB1:=dB hb1;clear c2 hm1 hb1
   go_loopw [45] (λi wq=>∃j:Nat,j<=li.length∧i= .int .i64 (j:Int)∧mI wq (w.heap.size+1+1+1) (64*k+j) (uE eY.ins b.steps k li j)∧Qv.grownBy wq (some (w.heap.size+1+1+1))) (λi _=>li.length - (intOf i).toNat)
   case atStart=>exact ⟨0,bq _,rfl,by rw [Dl];exact hu1,vC _ _⟩
   case round=>
    obtain ⟨j,hj,rfl,hu,hgr⟩:=hrel;clear hu1
    by_cases hjl:j<li.length
    ·have Vw:(j:Int)<(li.length:Int):=by omega
     have hbq:Below (w.heap.size+2) W4 wr:=HB1.out.grown hgr (by omega) (λj hj=>by simp at hj;omega);obtain ⟨bc,of,rfl,hbc,hcc⟩:=hri.keep (HK.out wr (hbq.mono (by omega))) (by omega);have r1:=KY hcc hjl;have hkk:=hki _ (aY hjl);have hps:=Dm eY.ins b.steps k li j hjl;generalize li[j]=p at *;have hkey:keyOf Lo.prog 3 (.int .i64 p)=some (kI p):=keyOf_int_mk Lo.K4 (wfI hkk.1 hkk.2);have HG:=dB hgr;have HP:=dB hps;clear hcc hbq hgr hps hri
     go_wp2_with (first
      |(at_mapUpdate;refine wpList_mapUpdate_own _ rfl _ _ _ 135 rfl 3 3 Lo.VC Lo.Ht _ (w.heap.size+1+1+1) _ _ rfl hu (by unfold maxLen;omega) _ _ _ rfl rfl hkey _ [] (plainElem_int Lo.K4 (wfI (p:=(k:Int)) (by omega) (by omega))) ?_;intro w1 hown1 hgrow1)
      |go_in)
     have HO:=dB hown1;have HG1:=dB hgrow1;clear hown1 hgrow1 hu;go_roundw
     case rel=>exact ⟨j+1,by omega,by go_num,by rw [HP.out];exact aa1 HO.out,HG.out.trans HG1.out⟩
     case measure=>simp [intOf];omega
    ·obtain rfl:j=li.length:=by omega
     have c2:wr.cell? ⟨n1,2,none⟩=some (.slice a2 lo.length (sv k).c2):=by
      rw [dA (hgr.block n1 (by omega) (by simp;omega))];exact C2'.out
     have hm1:mI wr (w.heap.size+1+1) (64*k) (gB eY.outs b.steps k):=HM.out.kept hgr (by simp);have hb1:Below (w.heap.size+2) W4 wr:=HB1.out.grown hgr (by omega) (λj hj=>by simp at hj;omega);rw [EZ, <-pmi] at hu;have HU:=dB (mI.up hu (show 64*k+li.length<=64*(k+1) by omega));have HB2:=dB hb1;have HM2:=dB hm1;have szr:=hb1.size;clear hu hgr HM HB1 hb1 hm1 C2' pmi hri;go_wp2;generalize wr=wr2 at *
     go_loopw [56] (λi wr=>∃j:Nat,j<=lo.length∧i= .int .i64 (j:Int)∧mI wr (w.heap.size+1+1) (64*k+j) (uE eY.outs b.steps k lo j)∧wr2.grownBy wr (some (w.heap.size+1+1))) (λi _=>lo.length - (intOf i).toNat)
     case atStart=>exact ⟨0,bq _,rfl,by rw [Dl];exact HM2.out,vC _ _⟩
     case round=>
      obtain ⟨j,hj,rfl,hm,hgr⟩:=hrel;clear HM2
      by_cases hjl:j<lo.length
      ·have Vw:(j:Int)<(lo.length:Int):=by omega
       have hbq:Below (w.heap.size+2) W4 wr:=HB2.out.grown hgr (by omega) (λj hj=>by simp at hj;omega);obtain ⟨bc,of,rfl,hbc,hcc⟩:=hro.keep (HK.out wr (hbq.mono (by omega))) (by omega);have r1:=KY hcc hjl;have hkk:=hko _ (aY hjl);have hps:=Dm eY.outs b.steps k lo j hjl;generalize lo[j]=p at *;have hkey:keyOf Lo.prog 3 (.int .i64 p)=some (kI p):=keyOf_int_mk Lo.K4 (wfI hkk.1 hkk.2);have HG:=dB hgr;have HP:=dB hps;clear hcc hbq hgr hps hro
       go_wp2_with (first
        |(at_mapUpdate;refine wpList_mapUpdate_own _ rfl _ _ _ 135 rfl 3 3 Lo.VC Lo.Ht _ (w.heap.size+1+1) _ _ rfl hm (by unfold maxLen;omega) _ _ _ rfl rfl hkey _ [] (plainElem_int Lo.K4 (wfI (p:=(k:Int)) (by omega) (by omega))) ?_;intro w1 hown1 hgrow1)
        |go_in)
       have HO:=dB hown1;have HG1:=dB hgrow1;clear hown1 hgrow1 hm;go_roundw
       case rel=>exact ⟨j+1,by omega,by go_num,by rw [HP.out];exact aa1 HO.out,HG.out.trans HG1.out⟩
       case measure=>simp [intOf];omega
      ·obtain rfl:j=lo.length:=by omega
       have hu1:mI wr (w.heap.size+1+1+1) (64*(k+1)) (gB eY.ins b.steps (k+1)):=HU.out.kept hgr (by simp);have hb1:Below (w.heap.size+2) W4 wr:=HB2.out.grown hgr (by omega) (λj hj=>by simp at hj;omega);rw [EZ, <-pmo] at hm;have HMM:=dB (mI.up hm (show 64*k+lo.length<=64*(k+1) by omega));have HU2:=dB hu1;have HB3:=dB hb1;clear hm hgr HU HB2 hb1 hu1 pmo hro;go_wp2;go_roundw
       case rel=>exact ⟨k+1,by omega,by go_num,HMM.out,HU2.out,HB3.out⟩
       case measure=>simp [intOf];omega
  ·obtain rfl:k=b.steps.length:=by omega
   have c01:wr.cell? ⟨w.heap.size,1,none⟩=some (.slice ap b.dF.length cp):=(dP hbl _ _ (by omega)).trans (Al.out 1);have c03:wr.cell? ⟨w.heap.size,3,none⟩=some (.slice ac b.dJ.length cc):=(dP hbl _ _ (by omega)).trans (Al.out 3);have c02:wr.cell? ⟨w.heap.size,2,none⟩=some (.slice jY b.steps.length cs):=(dP hbl _ _ (by omega)).trans (Al.out 2);have hbw:wr.heap[w.heap.size+1]?=some (.cells #[.slice none 0 0,.int .i64 (b.steps.length:Int),.int .i64 ((b.steps.length:Int)+1)] 114):=(hbl.block _ (by omega)).trans HBW.out
   go_wp2;have mk5:mI wr (w.heap.size+1+1) 1024 (gB eY.outs b.steps b.steps.length):=mI.up hmk (by omega);have us5:mI wr (w.heap.size+1+1+1) 1024 (gB eY.ins b.steps b.steps.length):=mI.up VF (by omega);have hb5:Below (w.heap.size+1) W4 wr:=hbl.mono (by omega);have sz5:=hbl.size;have bk5:∀wq,Below (w.heap.size+1) W4 wq->∀j:Nat,wq.cell? ⟨w.heap.size,j,none⟩=(#[Value.slice ah b.dR.length ch,.slice ap b.dF.length cp,.slice jY b.steps.length cs,.slice ac b.dJ.length cc]:Array Value)[j]?:= λwq hx j=>(dP hx _ _ (by omega)).trans (Al.out j)
   have IY:=dB bk5;have aq0:gD wr (w.heap.size+1) (w.heap.size+4) b.steps.length ((b.steps.length:Int)+1) (fq b 0) (.slice none 0 0):=⟨hbw,World.ownsRow_nil _ _ _ _,Par.eU.nil _⟩;clear hmk VF hbl bk5 Al HBW c01 c03 c02 hbw
   go_loopw [68] (λi wr=>∃k:Nat,∃v:Value,k<=b.dF.length∧i= .int .i64 (k:Int)∧gD wr (w.heap.size+1) (w.heap.size+4) b.steps.length ((b.steps.length:Int)+1) (fq b k) v∧mI wr (w.heap.size+1+1) 1024 (gB eY.outs b.steps b.steps.length)∧mI wr (w.heap.size+1+1+1) 1024 (gB eY.ins b.steps b.steps.length)∧Below (w.heap.size+1) W4 wr∧w.heap.size+4<=wr.heap.size) (λi _=>b.dF.length - (intOf i).toNat)
   case atStart=>exact ⟨0,_,bq _,rfl,aq0,mk5,us5,hb5,by omega⟩
   case round=>
    obtain ⟨k,v1,hk,rfl,wQ,hmk,VF,hbl,hsz⟩:=hrel;clear aq0 mk5 us5 hb5 sz5
    by_cases hlt:k<b.dF.length
    ·have hlt':(k:Int)<(b.dF.length:Int):=by omega
     have HW:=dB wQ;have HM:=dB hmk;have HU:=dB VF;have En:=dB hbl;have c03:∀o,(wr.alloc o).cell? ⟨w.heap.size,3,none⟩=some (.slice ac b.dJ.length cc):= λo=>(dx _ _ _ (by show w.heap.size<_;omega)).trans (IY.out wr hbl 3)
     clear wQ hmk VF hbl;go_wp2;generalize xO:wr.alloc (.cells #[.int .i64 0,.int .i64 1000000] 137)=wr3;have sz3:wr3.heap.size=wr.heap.size+1:=by subst xO;simp
     have hx3:wr3.heap[wr.heap.size]?=some (.cells #[.int .i64 0,.int .i64 1000000] 137):=by subst xO;exact heap_alloc_new wr _
     have hg3:wr.grownBy wr3 none:=by subst xO;exact World.grownBy_alloc wr _ none
     have hw3:gD wr3 (w.heap.size+1) (w.heap.size+4) b.steps.length ((b.steps.length:Int)+1) (fq b k) v1:=⟨(hg3.block _ (by omega) (by simp)).trans HW.out.blk,by subst xO;exact HW.out.row.alloc _,by subst xO;exact HW.out.pl.alloc _⟩;have hm3:mI wr3 (w.heap.size+1+1) 1024 (gB eY.outs b.steps b.steps.length):=HM.out.kept hg3 (by simp);have hu3:mI wr3 (w.heap.size+1+1+1) 1024 (gB eY.ins b.steps b.steps.length):=HU.out.kept hg3 (by simp);have hb3:Below (w.heap.size+1) W4 wr3:=En.out.grown hg3 (by omega) (λj hj=>by simp at hj);have hv1:=HW.out.row.lt;clear xO HW HM HU En hg3 c03;generalize wr.heap.size=nx at *;have HW:=dB hw3;have HM:=dB hm3;have HU:=dB hu3;have En:=dB hb3;have HX:=dB hx3;have HV:=dB hv1;clear hw3 hm3 hu3 hb3 hx3 hv1
     go_loopw [75] (λi wr=>∃j:Nat,j<=b.dJ.length∧i= .int .i64 (j:Int)∧wr.heap[nx]?=some (.cells #[.int .i64 (lG (b.dJ.take j) k).1,.int .i64 (lG (b.dJ.take j) k).2] 137)∧wr3.grownBy wr (some nx)) (λi _=>b.dJ.length - (intOf i).toNat)
     case atStart=>exact ⟨0,bq _,rfl,HX.out,vC _ _⟩
     case round=>
      obtain ⟨j,hj,rfl,hx,hgr⟩:=hrel;clear HX
      by_cases hjl:j<b.dJ.length
      ·have Vw:(j:Int)<(b.dJ.length:Int):=by omega
       have hbq:Below (w.heap.size+1) W4 wr:=En.out.grown hgr (by omega) (λj hj=>by simp at hj;omega);obtain ⟨bc,of,rfl,hbc,hcc⟩:=h6.keep (HK.out wr hbq) (by omega);obtain ⟨r0,r1,r2⟩:=Hq hcc hjl;have hps:=ax8 b.dJ k j hjl;generalize b.dJ[j]=sc at *;generalize lG (b.dJ.take j) k=x at *;have szr:=hgr.size;have HG:=dB hgr;have HP:=dB hps;have HX:=dB hx;have hxs:=OT hx;have HXS:=dB hxs;clear hcc hbq hgr hps hx hxs
       by_cases hp:sc.pile=k
       ·have hpd:(sc.pile==(k:Int))=true:=by simpa using hp
        go_wp2;generalize M7:wr.alloc (.cells #[.int .i64 (k:Int),.int .i64 sc.lo,.int .i64 sc.hi] 59)=wA;have szA:wA.heap.size=wr.heap.size+1:=by subst M7;simp
        have hgA:wr.grownBy wA none:=by subst M7;exact World.grownBy_alloc wr _ none
        have x0:wA.cell? ⟨nx,0,none⟩=some (.int .i64 x.1):=(dA (hgA.block nx (by omega) (by simp))).trans HXS.out.1;have x1:wA.cell? ⟨nx,1,none⟩=some (.int .i64 x.2):=(dA (hgA.block nx (by omega) (by simp))).trans HXS.out.2.1;have s1:wA.cell? ⟨wr.heap.size,1,none⟩=some (.int .i64 sc.lo):=by subst M7;rw [dm _ _ _ _ rfl];rfl
        have s2:wA.cell? ⟨wr.heap.size,2,none⟩=some (.int .i64 sc.hi):=by subst M7;rw [dm _ _ _ _ rfl];rfl
        have hAx:wA.heap[nx]?=some (.cells #[.int .i64 x.1,.int .i64 x.2] 137):=(hgA.block nx (by omega) (by simp)).trans HX.out
        obtain ⟨_,_,xf0,xf1⟩:=OT hAx;have HAX:=dB hAx;have HGA:=dB hgA;clear M7 hAx hgA;generalize wr.heap.size=nr at *;apply M6 (λw2=>wr3.grownBy w2 (some nx)∧w2.heap[nx]?=some (.cells #[.int .i64 (max x.1 sc.lo),.int .i64 (min x.2 sc.hi)] 137))
        case h1=>
         intro Q' hK
         go_region_with (first
          |(go_at_call 88
            refine (Lo.pY _ _ _).mono ?_
            rintro e w1 ⟨rfl,hb1⟩;have y0:=(dP hb1 nx 0 (by show nx<wA.heap.size;omega)).trans x0;have y1:=(dP hb1 nx 1 (by show nx<wA.heap.size;omega)).trans x1;have yf0:=(FM hb1 nx 0 (by show nx<wA.heap.size;omega)).trans xf0;have yf1:=(FM hb1 nx 1 (by show nx<wA.heap.size;omega)).trans xf1;have yz:wA.heap.size<=w1.heap.size:=hb1.size;have HY:=dB hb1;clear hb1)
          |(go_at_call 87
            refine (Lo.Vo _ _ _ _ _).mono ?_
            rintro e w2 ⟨rfl,hb2⟩;have z0:=(dP hb2 nx 0 (by omega)).trans y0;have z1:=(dP hb2 nx 1 (by omega)).trans y1;have zf0:=(FM hb2 nx 0 (by omega)).trans yf0;have zf1:=(FM hb2 nx 1 (by omega)).trans yf1;have HZ:=dB hb2;clear hb2))
         all_goals
          have hx2:w2.heap[nx]?=some (.cells #[.int .i64 x.1,.int .i64 x.2] 137):=(HZ.out.block nx (by omega)).trans ((HY.out.block nx (by show nx<wA.heap.size;omega)).trans HAX.out)
          have hg2:wr3.grownBy w2 (some nx):=vB (vB (vB (vB HG.out HGA.out (by simp)) (OQ wA none) (by simp)) (below_grown HY.out rfl none) (by simp)) (below_grown HZ.out rfl none) (by simp);exact hK _ ⟨(hg2.trans (pq _ _ _ _)).trans (pq _ _ _ _),YH hx2⟩
        case h2=>
         rintro w2 ⟨hg2,hx2⟩;have HX2:=dB hx2;have HG2:=dB hg2;clear hx2 hg2 x0 x1 xf0 xf1 HXS;go_wp2;go_roundw
         case rel=>exact ⟨j+1,by omega,by go_num,by rw [HP.out];unfold TP;rw [aj hp];exact HX2.out,HG2.out⟩
         case measure=>simp [intOf];omega
       ·have hpd:(sc.pile==(k:Int))=false:=by simpa using hp
        go_wp2;go_roundw
        case rel=>exact ⟨j+1,by omega,by go_num,by rw [HP.out];unfold TP;rw [aa hp];exact (dw _ _ _ (by omega)).trans HX.out,vB HG.out (World.grownBy_alloc _ _ (some nx)) (λj hj=>.inr (by simp at hj;simp [hj]))⟩
        case measure=>simp [intOf];omega
      ·obtain rfl:j=b.dJ.length:=by omega
       rw [List.take_length] at hx;have hbq:Below (w.heap.size+1) W4 wr:=En.out.grown hgr (by omega) (λj hj=>by simp at hj;omega)
       have hvn:v1.ownBlock=none∨v1.ownBlock≠some nx:=by
        cases e:v1.ownBlock with
        |none=>exact .inl rfl
        |some g=>exact .inr (by have :=(HV.out g e).2;simp;omega)
       have hw4:gD wr (w.heap.size+1) (w.heap.size+4) b.steps.length ((b.steps.length:Int)+1) (fq b k) v1:=⟨(hgr.block _ (by omega) (by simp;omega)).trans HW.out.blk,HW.out.row.kept hgr hvn,HW.out.pl.keep λg hg=>hgr.block g (by have :=(HV.out g hg).2;omega) (λe=>by have :=(HV.out g hg).2;simp at e;omega)⟩;have hm4:mI wr (w.heap.size+1+1) 1024 (gB eY.outs b.steps b.steps.length):=HM.out.kept hgr (by simp;omega);have hu4:mI wr (w.heap.size+1+1+1) 1024 (gB eY.ins b.steps b.steps.length):=HU.out.kept hgr (by simp;omega);have szr:=hgr.size;have hkey:keyOf Lo.prog 3 (.int .i64 (k:Int))=some (kI k):=keyOf_int_mk Lo.K4 (wfI (by omega) (by omega));obtain ⟨cm,hlk,hcm,_⟩:=hm4.drew.lookup_int Lo.VC Lo.Ht Lo.K4 (Lo.VD _) hkey;rw [Qr] at hcm;have hcm:yM b.steps k=cm:=VA hcm;have hmb:=Qs b.steps k;have hub:=VB b.steps k;have hps:p9 b k=⟨(lG b.dJ k).1,(lG b.dJ k).2,(yM b.steps k).toNat,((wP b.steps k).getD b.steps.length).toNat⟩:=rfl;rw [hcm] at hmb hps;generalize lG b.dJ k=x at *;obtain ⟨x0,x1,_,_⟩:=OT hx;obtain ⟨v0,_,_,vf0,_,_⟩:=jT hw4.blk;have x0d:wr.drew.cell? ⟨nx,0,none⟩=some (.int .i64 x.1):=x0;have x1d:wr.drew.cell? ⟨nx,1,none⟩=some (.int .i64 x.2):=x1;have v0d:wr.drew.cell? ⟨w.heap.size+1,0,none⟩=some v1:=v0;have v0a:∀o,(wr.alloc o).cell? ⟨w.heap.size+1,0,none⟩=some v1:= λo=>(dx _ _ _ (by show w.heap.size+1<wr.heap.size;omega)).trans v0
       have HPS:=dB hps;have HW4:=dB hw4;have HM4:=dB hm4;have HU4:=dB hu4;have VG:=dB hbq;have HUB:=dB hub;have HMB:=dB hmb;have hhas:=Vz (gB eY.ins b.steps b.steps.length) k;have YJ:=Qr (gB eY.ins b.steps b.steps.length) k 0;have hlen:=jw b k;clear hx x0 x1 v0 hw4 hm4 hbq hgr HW HM HU En hps hub hmb hcm hvn;cases huo:wP b.steps k with
       |none=>
        have hd:Maps.has (Dj (gB eY.ins b.steps b.steps.length)) (kI k)=false:=by rw [hhas];unfold wP at huo;rw [huo];rfl
        clear hhas YJ
        go_wp2_with (first
         |(at_lookup;refine wpList_lookup_own_ok_int _ rfl _ _ 135 rfl 3 3 .i64 Lo.VC Lo.Ht Lo.K4 (Lo.VD _) (w.heap.size+1+1+1) _ _ rfl hu4 _ _ rfl hkey ?_;intro c hat hwc;rw [hd];clear hat hwc)
         |go_in)
        have HLK:=dB hlk;have HU5:=dB hu4;have hsum:(fq b k).length+1<=64:=by omega
        rw [huo] at HPS HUB;have hpc:=Hw HPS.out HMB.out.1 HUB.out.1;have VH:=dB hpc;clear hu4 hlk hd hkey hpc;have hlk2:=HLK.out;apply E8 (λg cap wx=>gD wx (w.heap.size+1) (w.heap.size+4) b.steps.length ((b.steps.length:Int)+1) (fq b (k+1)) (.slice (some ⟨g,0,none⟩) (k+1) cap)∧mI wx (w.heap.size+1+1) 1024 (gB eY.outs b.steps b.steps.length)∧mI wx (w.heap.size+1+1+1) 1024 (gB eY.ins b.steps b.steps.length)∧Below (w.heap.size+1) W4 wx∧w.heap.size+4<=wx.heap.size)
        case h1=>
         intro Q' hK
         go_region_law ((refine Par.pQ rfl (.tmp 102) (.tmp 109) 112 rfl (w.heap.size+4) 142 i0 (.agg #[.int .i64 0,.int .i64 0,.int .i64 0,.int .i64 0]) 4 32 Lo.M4 hi hz0 hz1 hz2 rfl (by decide) v1 (fq b k).length (kW (fq b k)) rfl (HW4.out.row.drew.alloc _) ⟨wr.heap.size,0,none⟩ 1 1 [.int .i64 x.1,.int .i64 x.2,.int .i64 cm,.int .i64 (b.steps.length:Int)] rfl rfl (World.news_of_block (heap_alloc_new wr.drew _)) (by simp [Value.oneCell']) (by omega) (by unfold maxLen;omega) (by omega) (by simp;omega) (wr.heap.size+1) (by simp) ((show Par.eU wr.drew v1 from HW4.out.pl).alloc _) (by intro u hu;simp at hu;rcases hu with rfl|rfl|rfl|rfl<;>rfl) (by intro u hu;simp [Value.cells] at hu;subst hu;rfl) ?_
                         intro g cap w1 hown1 hgrow hat hlt1 zN;have hbk:=Qu HW4.out hgrow (by omega) (by omega);have c0:=(jT hbk).1;have f0:=(jT hbk).2.2.2.1;have Al:=dB hbk;have HOW:=dB hown1;have M8:=dB hgrow;have VI:=dB zN;clear hbk hown1 hgrow hat zN))
         all_goals
          refine hK g cap _ ⟨?_,((HM4.out.drew.alloc _).kept M8.out ?_).kept (pq _ _ _ _) (λe=>by have :=aU e;omega),((HU5.out.drew.alloc _).kept M8.out ?_).kept (pq _ _ _ _) (λe=>by have :=aU e;omega),((VG.out.drew.alloc (by show w.heap.size+1<=wr.heap.size;omega) _).grown M8.out (by simp;omega) (λj hj=>by have :=(HV.out j hj).1;omega)).setCell (aJ _) _,?_⟩
          ·rw [Dn];have :=gD.step (ss:=fq b k) (news:=[p9 b k]) (g:=g) (cap:=cap) (m:=k+1) Al.out (by rw [<-VH.out];simpa [jw] using HOW.out) (by simp [jw]) (by simpa [jw] using VI.out) (by omega);simpa [jw] using this
          ·intro e;have :=(HV.out _ e.symm).1;omega
          ·intro e;have :=(HV.out _ e.symm).1;omega
          ·have :=M8.out.size;simp [World.setCell] at this ⊢;omega
        case h2=>
         rintro g cap wx ⟨q1,q2,q3,q4,q5⟩;have Q1:=dB q1;have Q2:=dB q2;have Q3:=dB q3;have Q4:=dB q4;clear q1 q2 q3 q4 HW4 HM4 HU5 VG x0d x1d v0d v0a vf0 hlk2 HLK VH HPS HUB HMB;go_wp2;go_roundw
         case rel=>exact ⟨k+1,_,by omega,by go_num,Q1.out,Q2.out,Q3.out,Q4.out,q5⟩
         case measure=>simp [intOf];omega
       |some iu=>
        have hd:Maps.has (Dj (gB eY.ins b.steps b.steps.length)) (kI k)=true:=by rw [hhas];unfold wP at huo;rw [huo];rfl
        have hiu:(vM (gB eY.ins b.steps b.steps.length) k).getD 0=iu:=by unfold wP at huo;rw [huo];rfl
        rw [hiu] at YJ;have HAT:=dB YJ;clear hhas YJ hiu
        go_wp2_with (first
         |(at_lookup;refine wpList_lookup_own_ok_int _ rfl _ _ 135 rfl 3 3 .i64 Lo.VC Lo.Ht Lo.K4 (Lo.VD _) (w.heap.size+1+1+1) _ _ rfl hu4 _ _ rfl hkey ?_;intro c hat hwc;rw [hd];have XF:=VA (HAT.out.symm.trans hat);have HCU:=dB XF;clear hat hwc XF)
         |go_in)
        have HLK:=dB hlk;have HU5:=dB hu4;have hsum:(fq b k).length+1<=64:=by omega
        rw [huo,HCU.out] at HPS HUB;have hpc:=Hw HPS.out HMB.out.1 HUB.out.1;have VH:=dB hpc;clear hu4 hlk hd hkey hpc;have hlk2:=HLK.out;apply E8 (λg cap wx=>gD wx (w.heap.size+1) (w.heap.size+4) b.steps.length ((b.steps.length:Int)+1) (fq b (k+1)) (.slice (some ⟨g,0,none⟩) (k+1) cap)∧mI wx (w.heap.size+1+1) 1024 (gB eY.outs b.steps b.steps.length)∧mI wx (w.heap.size+1+1+1) 1024 (gB eY.ins b.steps b.steps.length)∧Below (w.heap.size+1) W4 wx∧w.heap.size+4<=wx.heap.size)
        case h1=>
         intro Q' hK
         go_region_law ((refine Par.pQ rfl (.tmp 102) (.tmp 109) 112 rfl (w.heap.size+4) 142 i0 (.agg #[.int .i64 0,.int .i64 0,.int .i64 0,.int .i64 0]) 4 32 Lo.M4 hi hz0 hz1 hz2 rfl (by decide) v1 (fq b k).length (kW (fq b k)) rfl (HW4.out.row.drew.alloc _) ⟨wr.heap.size,0,none⟩ 1 1 [.int .i64 x.1,.int .i64 x.2,.int .i64 cm,.int .i64 c] rfl rfl (World.news_of_block (heap_alloc_new wr.drew _)) (by simp [Value.oneCell']) (by omega) (by unfold maxLen;omega) (by omega) (by simp;omega) (wr.heap.size+1) (by simp) ((show Par.eU wr.drew v1 from HW4.out.pl).alloc _) (by intro u hu;simp at hu;rcases hu with rfl|rfl|rfl|rfl<;>rfl) (by intro u hu;simp [Value.cells] at hu;subst hu;rfl) ?_
                         intro g cap w1 hown1 hgrow hat hlt1 zN;have hbk:=Qu HW4.out hgrow (by omega) (by omega);have c0:=(jT hbk).1;have f0:=(jT hbk).2.2.2.1;have Al:=dB hbk;have HOW:=dB hown1;have M8:=dB hgrow;have VI:=dB zN;clear hbk hown1 hgrow hat zN))
         all_goals
          refine hK g cap _ ⟨?_,((HM4.out.drew.alloc _).kept M8.out ?_).kept (pq _ _ _ _) (λe=>by have :=aU e;omega),((HU5.out.drew.alloc _).kept M8.out ?_).kept (pq _ _ _ _) (λe=>by have :=aU e;omega),((VG.out.drew.alloc (by show w.heap.size+1<=wr.heap.size;omega) _).grown M8.out (by simp;omega) (λj hj=>by have :=(HV.out j hj).1;omega)).setCell (aJ _) _,?_⟩
          ·rw [Dn];have :=gD.step (ss:=fq b k) (news:=[p9 b k]) (g:=g) (cap:=cap) (m:=k+1) Al.out (by rw [<-VH.out];simpa [jw] using HOW.out) (by simp [jw]) (by simpa [jw] using VI.out) (by omega);simpa [jw] using this
          ·intro e;have :=(HV.out _ e.symm).1;omega
          ·intro e;have :=(HV.out _ e.symm).1;omega
          ·have :=M8.out.size;simp [World.setCell] at this ⊢;omega
        case h2=>
         rintro g cap wx ⟨q1,q2,q3,q4,q5⟩;have Q1:=dB q1;have Q2:=dB q2;have Q3:=dB q3;have Q4:=dB q4;clear q1 q2 q3 q4 HW4 HM4 HU5 VG x0d x1d v0d v0a vf0 hlk2 HLK VH HPS HUB HMB;go_wp2;go_roundw
         case rel=>exact ⟨k+1,_,by omega,by go_num,Q1.out,Q2.out,Q3.out,Q4.out,q5⟩
         case measure=>simp [intOf];omega
    ·obtain rfl:k=b.dF.length:=by omega
     have HW:=dB wQ;have En:=dB hbl;have c02:wr.cell? ⟨w.heap.size,2,none⟩=some (.slice jY b.steps.length cs):=IY.out wr hbl 2;have hv1:=wQ.row.lt;have HV:=dB hv1;clear wQ hmk VF hbl hv1;go_wp2;generalize wr=wr5 at *;have hsz5:=hsz
     go_loopw [117] (λi wr=>∃k:Nat,∃v:Value,k<=b.steps.length∧i= .int .i64 (k:Int)∧gD wr (w.heap.size+1) (w.heap.size+4) b.steps.length ((b.steps.length:Int)+1) (fq b b.dF.length++fU b hand k) v∧Below (w.heap.size+1) W4 wr∧w.heap.size+4<=wr.heap.size) (λi _=>b.steps.length - (intOf i).toNat)
     case atStart=>exact ⟨0,_,bq _,rfl,by simpa [fU] using HW.out,En.out,hsz5⟩
     case round=>
      obtain ⟨k,v2,hk,rfl,wQ,hbl,hsz⟩:=hrel;clear HW En HV
      by_cases hlt:k<b.steps.length
      ·have hlt':(k:Int)<(b.steps.length:Int):=by omega
       have hkp:=HK.out wr (hbl.mono (by omega));obtain ⟨bb,off,rfl,hbb,hc⟩:=h3.keep hkp (by omega);obtain ⟨k0,k1,k2,k3,k4,k5,k6⟩:=yL hc hlt
       have hst:fU b hand (k+1)=fU b hand k++uh b.steps.length hand k b.steps[k]:=by
        show fU b hand k++_=_;rw [aO hlt]
       have hlen:=wB b hand k (by omega);generalize b.steps[k]=s at *;have HST:=dB hst;have HW:=dB wQ;have En:=dB hbl;have hv2:=wQ.row.lt;have HV:=dB hv2;clear hkp hc hst wQ hbl hv2
       by_cases hh1:s.hand=hand
       ·have hhd:(s.hand==hand)=true:=by simpa using hh1
        go_wp2;generalize M7:wr.alloc (.cells #[.int .i64 hand,.slice (sv k).a1 s.ins.length (sv k).c1,.slice (sv k).a2 s.outs.length (sv k).c2,.int .i64 s.g0,.int .i64 s.g1,.int .i64 s.l0,.int .i64 s.l1] 53)=wA;have szA:wA.heap.size=wr.heap.size+1:=by subst M7;simp
        have a9:∀j:Nat,wA.cell? ⟨wr.heap.size,j,none⟩=(#[Value.int .i64 hand,.slice (sv k).a1 s.ins.length (sv k).c1,.slice (sv k).a2 s.outs.length (sv k).c2,.int .i64 s.g0,.int .i64 s.g1,.int .i64 s.l0,.int .i64 s.l1]:Array Value)[j]?:=by subst M7;intro j;rw [dm _ _ _ _ rfl]
        have a3:wA.cell? ⟨wr.heap.size,3,none⟩=some (.int .i64 s.g0):=a9 3;have a4:wA.cell? ⟨wr.heap.size,3+1,none⟩=some (.int .i64 s.g1):=a9 4;have a5:wA.cell? ⟨wr.heap.size,5,none⟩=some (.int .i64 s.l0):=a9 5;have a6:wA.cell? ⟨wr.heap.size,5+1,none⟩=some (.int .i64 s.l1):=a9 6;have hWA:gD wA (w.heap.size+1) (w.heap.size+4) b.steps.length ((b.steps.length:Int)+1) (fq b b.dF.length++fU b hand k) v2:=by subst M7;exact HW.out.alloc (by omega) _
        have hBA:Below (w.heap.size+1) W4 wA:=by subst M7;exact En.out.alloc (by omega) _
        have v0:=(jT hWA.blk).1;have hpc:=step_cells (n:=b.steps.length) (k:=k) (hand:=hand) (s:=s) (tv:=(b.steps.length:Int)+1) (by rw [aj hh1];simp);have hln:(fq b b.dF.length++fU b hand k).length=b.dF.length+2*k:=by rw [List.length_append,jw,hlen]
        have hSA:VE wr.heap.size s wA:=⟨a3,a4,a5,a6⟩;have SA:=dB hSA;have WA:=dB hWA;have BA:=dB hBA;have VH:=dB hpc;clear M7 a9 hSA hWA hBA HW En hpc k0 k1 k2 k3 k4 k5 k6;generalize wr.heap.size=nr at *;apply E9 (λg cap q wx=>gD wx (w.heap.size+1) (w.heap.size+4) b.steps.length ((b.steps.length:Int)+1) (fq b b.dF.length++fU b hand (k+1)) (.slice (some ⟨g,0,none⟩) (b.dF.length+2*k+2) cap)∧Below (w.heap.size+1) W4 wx∧w.heap.size+4<=wx.heap.size)
        case h1=>
         intro Q' hK
         go_region_law (first
          |(refine Par.pQ rfl (.tmp 133) (.tmp 146) 112 rfl (w.heap.size+4) 142 i0 (.agg #[.int .i64 0,.int .i64 0,.int .i64 0,.int .i64 0]) 4 32 Lo.M4 hi hz0 hz1 hz2 rfl (by decide) v2 (fq b b.dF.length++fU b hand k).length (kW (fq b b.dF.length++fU b hand k)) rfl (ZW.out.row.alloc _) ⟨w2.heap.size,0,none⟩ 2 2 [.int .i64 s.g0,.int .i64 s.g1,.int .i64 (b.steps.length:Int),.int .i64 (k:Int),.int .i64 s.l0,.int .i64 s.l1,.int .i64 (k:Int),.int .i64 ((b.steps.length:Int)+1)] rfl rfl (World.news_of_block (heap_alloc_new w2 _)) (by simp [Value.oneCell']) (by omega) (by unfold maxLen;omega) (by omega) (by simp;omega) (w2.heap.size+1) (by simp) (ZW.out.pl.alloc _) (by intro u hu;simp at hu;rcases hu with rfl|rfl|rfl|rfl|rfl|rfl|rfl|rfl<;>rfl) (by intro u hu;simp [Value.cells] at hu;subst hu;rfl) ?_
            intro g cap w3 hown1 hgrow hat hlt1 zN;have hbk:=M5 ZW.out hgrow (by omega) (by omega);have S3:=dB (VE.keep SZ.out ((hgrow.block nr (by simp;omega) (λe=>by have :=(HV.out nr e.symm).2;omega)).trans (dw _ _ _ (by omega))));have c0:=(jT hbk).1;have f0:=(jT hbk).2.2.2.1;have Al:=dB hbk;have HOW:=dB hown1;have M8:=dB hgrow;have VI:=dB zN;clear hbk hown1 hgrow hat zN)
          |(go_simp
            go_at_call 88
            refine (Lo.pY _ _ _).mono ?_
            rintro e w2 ⟨rfl,hb2⟩;have SZ:=dB (VE.keep SY.out (hb2.block nr (by omega)));have z0:=(dP hb2 (w.heap.size+1) 0 (by omega)).trans y0;have zs:w1.heap.size<=w2.heap.size:=hb2.size;have za:∀o,(w2.alloc o).cell? ⟨w.heap.size+1,0,none⟩=some v2:= λo=>(dx _ _ _ (by show w.heap.size+1<w2.heap.size;omega)).trans z0
            have ZW:=dB (YW.out.below hb2 rfl (by omega));have ZB:=dB (YB.out.trans (hb2.mono (by omega)));clear hb2)
          |(go_simp
            go_at_call 88
            refine (Lo.pY _ _ _).mono ?_
            rintro e w1 ⟨rfl,hb1⟩;have y0:=(dP hb1 (w.heap.size+1) 0 (by show w.heap.size+1<wA.heap.size;omega)).trans v0;have y5:=(dP hb1 nr 5 (by show nr<wA.heap.size;omega)).trans a5;have y6:=(dP hb1 nr (5+1) (by show nr<wA.heap.size;omega)).trans a6;have SY:=dB (VE.keep SA.out (hb1.block nr (by show nr<wA.heap.size;omega)));have ys:wA.heap.size<=w1.heap.size:=hb1.size;have YW:=dB (gD.below (w:=wA.drew) (⟨WA.out.blk,WA.out.row.drew,WA.out.pl⟩:gD wA.drew _ _ _ _ _ _) hb1 rfl (by show w.heap.size+1<wA.heap.size;omega));have YB:=dB (BA.out.drew.trans (hb1.mono (by show w.heap.size+1<=wA.heap.size;omega)));clear hb1))
         all_goals
          generalize w2.heap.size=q;refine hK g cap q _ ⟨?_,((ZB.out.alloc (by omega) _).grown M8.out (by simp;omega) (λj hj=>by have :=(HV.out j hj).1;omega)).setCell (p:=⟨w.heap.size+1,0,none⟩) (aJ _) _,?_⟩
          ·rw [HST.out, <-List.append_assoc];have :=gD.step (ss:=fq b b.dF.length++fU b hand k) (news:=uh b.steps.length hand k s) (g:=g) (cap:=cap) (m:=b.dF.length+2*k+2) Al.out (by rw [<-VH.out];simpa only [hln] using HOW.out) (by rw [hln];rfl) (by simpa only [hln] using VI.out) (by omega);simpa only [hln] using this
          ·have :=M8.out.size;simp [World.setCell] at this ⊢;omega
        case h2=>
         rintro g cap q wx ⟨q1,q4,q5⟩;have Q1:=dB q1;have Q4:=dB q4;clear q1 q4 WA BA VH HST v0 a3 a4 a5 a6;go_wp2;go_roundw
         case rel=>exact ⟨k+1,_,by omega,by go_num,Q1.out,Q4.out,q5⟩
         case measure=>simp [intOf];omega
       ·have hhd:(s.hand==hand)=false:=by simpa using hh1
        go_wp2;generalize M7:wr.alloc (.cells #[.int .i64 s.hand,.slice (sv k).a1 s.ins.length (sv k).c1,.slice (sv k).a2 s.outs.length (sv k).c2,.int .i64 s.g0,.int .i64 s.g1,.int .i64 s.l0,.int .i64 s.l1] 53)=wA;have szA:wA.heap.size=wr.heap.size+1:=by subst M7;simp
        have a9:∀j:Nat,wA.cell? ⟨wr.heap.size,j,none⟩=(#[Value.int .i64 s.hand,.slice (sv k).a1 s.ins.length (sv k).c1,.slice (sv k).a2 s.outs.length (sv k).c2,.int .i64 s.g0,.int .i64 s.g1,.int .i64 s.l0,.int .i64 s.l1]:Array Value)[j]?:=by subst M7;intro j;rw [dm _ _ _ _ rfl]
        have a3:wA.cell? ⟨wr.heap.size,3,none⟩=some (.int .i64 s.g0):=a9 3;have a4:wA.cell? ⟨wr.heap.size,3+1,none⟩=some (.int .i64 s.g1):=a9 4;have a5:wA.cell? ⟨wr.heap.size,5,none⟩=some (.int .i64 s.l0):=a9 5;have a6:wA.cell? ⟨wr.heap.size,5+1,none⟩=some (.int .i64 s.l1):=a9 6;have hWA:gD wA (w.heap.size+1) (w.heap.size+4) b.steps.length ((b.steps.length:Int)+1) (fq b b.dF.length++fU b hand k) v2:=by subst M7;exact HW.out.alloc (by omega) _
        have hBA:Below (w.heap.size+1) W4 wA:=by subst M7;exact En.out.alloc (by omega) _
        have v0:=(jT hWA.blk).1;have hpc:=step_cells (n:=b.steps.length) (k:=k) (hand:=hand) (s:=s) (tv:=(b.steps.length:Int)) (by rw [aa hh1]);have hln:(fq b b.dF.length++fU b hand k).length=b.dF.length+2*k:=by rw [List.length_append,jw,hlen]
        have hSA:VE wr.heap.size s wA:=⟨a3,a4,a5,a6⟩;have SA:=dB hSA;have WA:=dB hWA;have BA:=dB hBA;have VH:=dB hpc;clear M7 a9 hSA hWA hBA HW En hpc k0 k1 k2 k3 k4 k5 k6;generalize wr.heap.size=nr at *;apply E9 (λg cap q wx=>gD wx (w.heap.size+1) (w.heap.size+4) b.steps.length ((b.steps.length:Int)+1) (fq b b.dF.length++fU b hand (k+1)) (.slice (some ⟨g,0,none⟩) (b.dF.length+2*k+2) cap)∧Below (w.heap.size+1) W4 wx∧w.heap.size+4<=wx.heap.size)
        case h1=>
         intro Q' hK
         go_region_law (first
          |(refine Par.pQ rfl (.tmp 133) (.tmp 146) 112 rfl (w.heap.size+4) 142 i0 (.agg #[.int .i64 0,.int .i64 0,.int .i64 0,.int .i64 0]) 4 32 Lo.M4 hi hz0 hz1 hz2 rfl (by decide) v2 (fq b b.dF.length++fU b hand k).length (kW (fq b b.dF.length++fU b hand k)) rfl (ZW.out.row.alloc _) ⟨w2.heap.size,0,none⟩ 2 2 [.int .i64 s.g0,.int .i64 s.g1,.int .i64 (b.steps.length:Int),.int .i64 (k:Int),.int .i64 s.l0,.int .i64 s.l1,.int .i64 (k:Int),.int .i64 ((b.steps.length:Int))] rfl rfl (World.news_of_block (heap_alloc_new w2 _)) (by simp [Value.oneCell']) (by omega) (by unfold maxLen;omega) (by omega) (by simp;omega) (w2.heap.size+1) (by simp) (ZW.out.pl.alloc _) (by intro u hu;simp at hu;rcases hu with rfl|rfl|rfl|rfl|rfl|rfl|rfl|rfl<;>rfl) (by intro u hu;simp [Value.cells] at hu;subst hu;rfl) ?_
            intro g cap w3 hown1 hgrow hat hlt1 zN;have hbk:=M5 ZW.out hgrow (by omega) (by omega);have S3:=dB (VE.keep SZ.out ((hgrow.block nr (by simp;omega) (λe=>by have :=(HV.out nr e.symm).2;omega)).trans (dw _ _ _ (by omega))));have c0:=(jT hbk).1;have f0:=(jT hbk).2.2.2.1;have Al:=dB hbk;have HOW:=dB hown1;have M8:=dB hgrow;have VI:=dB zN;clear hbk hown1 hgrow hat zN)
          |(go_simp
            go_at_call 88
            refine (Lo.pY _ _ _).mono ?_
            rintro e w2 ⟨rfl,hb2⟩;have SZ:=dB (VE.keep SY.out (hb2.block nr (by omega)));have z0:=(dP hb2 (w.heap.size+1) 0 (by omega)).trans y0;have zs:w1.heap.size<=w2.heap.size:=hb2.size;have za:∀o,(w2.alloc o).cell? ⟨w.heap.size+1,0,none⟩=some v2:= λo=>(dx _ _ _ (by show w.heap.size+1<w2.heap.size;omega)).trans z0
            have ZW:=dB (YW.out.below hb2 rfl (by omega));have ZB:=dB (YB.out.trans (hb2.mono (by omega)));clear hb2)
          |(go_simp
            go_at_call 88
            refine (Lo.pY _ _ _).mono ?_
            rintro e w1 ⟨rfl,hb1⟩;have y0:=(dP hb1 (w.heap.size+1) 0 (by show w.heap.size+1<wA.heap.size;omega)).trans v0;have y5:=(dP hb1 nr 5 (by show nr<wA.heap.size;omega)).trans a5;have y6:=(dP hb1 nr (5+1) (by show nr<wA.heap.size;omega)).trans a6;have SY:=dB (VE.keep SA.out (hb1.block nr (by show nr<wA.heap.size;omega)));have ys:wA.heap.size<=w1.heap.size:=hb1.size;have YW:=dB (gD.below (w:=wA.drew) (⟨WA.out.blk,WA.out.row.drew,WA.out.pl⟩:gD wA.drew _ _ _ _ _ _) hb1 rfl (by show w.heap.size+1<wA.heap.size;omega));have YB:=dB (BA.out.drew.trans (hb1.mono (by show w.heap.size+1<=wA.heap.size;omega)));clear hb1))
         all_goals
          generalize w2.heap.size=q;refine hK g cap q _ ⟨?_,((ZB.out.alloc (by omega) _).grown M8.out (by simp;omega) (λj hj=>by have :=(HV.out j hj).1;omega)).setCell (p:=⟨w.heap.size+1,0,none⟩) (aJ _) _,?_⟩
          ·rw [HST.out, <-List.append_assoc];have :=gD.step (ss:=fq b b.dF.length++fU b hand k) (news:=uh b.steps.length hand k s) (g:=g) (cap:=cap) (m:=b.dF.length+2*k+2) Al.out (by rw [<-VH.out];simpa only [hln] using HOW.out) (by rw [hln];rfl) (by simpa only [hln] using VI.out) (by omega);simpa only [hln] using this
          ·have :=M8.out.size;simp [World.setCell] at this ⊢;omega
        case h2=>
         rintro g cap q wx ⟨q1,q4,q5⟩;have Q1:=dB q1;have Q4:=dB q4;clear q1 q4 WA BA VH HST v0 a3 a4 a5 a6;go_wp2;go_roundw
         case rel=>exact ⟨k+1,_,by omega,by go_num,Q1.out,Q4.out,q5⟩
         case measure=>simp [intOf];omega
      ·obtain rfl:k=b.steps.length:=by omega
       have hln:(fq b b.dF.length++fU b hand b.steps.length).length=b.dF.length+2*b.steps.length:=by rw [List.length_append,jw,wB b hand _ (aJ _)]
       obtain ⟨v0,v1c,v2c,vf0,vf1,vf2⟩:=jT wQ.blk;have hv2:=wQ.row.lt;have HV:=dB hv2;have HW:=dB wQ;have En:=dB hbl;clear wQ hbl hv2
       by_cases h0:0<=hand
       ·have hd0:decide (0<=hand)=true:=by simpa using h0
        have hw2:(wr.setCell ⟨w.heap.size+1,2,none⟩ (.int .i64 ((b.steps.length:Int)+1+1))).heap[w.heap.size+1]?=some (.cells #[v2,.int .i64 (b.steps.length:Int),.int .i64 ((b.steps.length:Int)+1+1)] 114):=OV HW.out.blk
        obtain ⟨w0,_,_,wf0,_,_⟩:=jT hw2
        have hrow:(wr.setCell ⟨w.heap.size+1,2,none⟩ (.int .i64 ((b.steps.length:Int)+1+1))).ownsRow (w.heap.size+4) 142 4 v2 (fq b b.dF.length++fU b hand b.steps.length).length (kW (fq b b.dF.length++fU b hand b.steps.length)):=HW.out.row.kept (pq _ _ _ _) (by
         cases e:v2.ownBlock with
         |none=>exact .inl rfl
         |some g=>exact .inr (by have :=(HV.out g e).1;simp;omega))
        have aq1:Par.eU (wr.setCell ⟨w.heap.size+1,2,none⟩ (.int .i64 ((b.steps.length:Int)+1+1))) v2:=HW.out.pl.keep λg hg=>Below.heap_setCell _ _ _ _ (by have :=(HV.out g hg).1;show g≠w.heap.size+1;omega)
        have hbw:Below (w.heap.size+1) W4 (wr.setCell ⟨w.heap.size+1,2,none⟩ (.int .i64 ((b.steps.length:Int)+1+1))):=En.out.setCell (p:=⟨w.heap.size+1,2,none⟩) (aJ _) _;have aC9:(wr.setCell ⟨w.heap.size+1,2,none⟩ (.int .i64 ((b.steps.length:Int)+1+1))).heap.size=wr.heap.size:=by simp [World.setCell]
        have H2:=dB hw2;have HR:=dB hrow;have VI:=dB aq1;have HBW:=dB hbw;clear hw2 hrow aq1 hbw
        go_wp2_with (first
         |(at_builtin;refine Par.DW rfl (.tmp 164) (.tmp 170) 112 rfl (w.heap.size+4) 142 i0 (.agg #[.int .i64 0,.int .i64 0,.int .i64 0,.int .i64 0]) 4 32 Lo.M4 hi hz0 hz1 hz2 rfl (by decide) v2 (fq b b.dF.length++fU b hand b.steps.length).length (kW (fq b b.dF.length++fU b hand b.steps.length)) rfl (HR.out.alloc _) ⟨wr.heap.size,0,none⟩ 1 1 [.int .i64 0,.int .i64 8000000,.int .i64 ((b.steps.length:Int)+1),.int .i64 (b.steps.length:Int)] rfl rfl ?c1 (by simp [Value.oneCell']) (by omega) (by unfold maxLen;omega) (by omega) (by simp;omega) (wr.heap.size+1) (by simp) (VI.out.alloc _) (by intro u hu;simp at hu;rcases hu with rfl|rfl|rfl|rfl<;>rfl) (by intro u hu;simp [Value.cells] at hu;subst hu;rfl) ?c2)
         |go_in)
        case c1=>
         have :=World.news_of_block (heap_alloc_new (wr.setCell ⟨w.heap.size+1,2,none⟩ (.int .i64 ((b.steps.length:Int)+1+1))) (.cells #[.int .i64 0,.int .i64 8000000,.int .i64 ((b.steps.length:Int)+1),.int .i64 (b.steps.length:Int)] 142));simpa using this
        intro g cap w3 hown1 hgrow hat hlt1 zN;have hbk:=(hgrow.block (w.heap.size+1) (by simp;omega) (λe=>by have :=(HV.out _ e.symm).1;omega)).trans ((dw _ _ _ (by omega)).trans H2.out);have c0:=(jT hbk).1;have f0:=(jT hbk).2.2.2.1;have hgs:=hgrow.size;have Al:=dB hbk;have HOW:=dB hown1;have M8:=dB hgrow;have ax9:=dB zN;clear hbk hown1 hgrow hat zN w0 wf0;go_wp2;go_ret;have hwl:fQ b hand=(fq b b.dF.length++fU b hand b.steps.length)++ [⟨0,8000000,b.steps.length+1,b.steps.length⟩]:=by unfold fQ;rw [aj h0]
        have hnd:(fe b hand:Int)=(b.steps.length:Int)+1+1:=by unfold fe;rw [aj h0];simp;omega
        have zZ:=(gD.step (g:=g) (cap:=cap) (m:=b.dF.length+2*b.steps.length+1) (ss:=fq b b.dF.length++fU b hand b.steps.length) (news:=[⟨0,8000000,b.steps.length+1,b.steps.length⟩]) Al.out (by simpa [kW,hln] using HOW.out) (by rw [hln];rfl) (by simpa [hln] using ax9.out) (by omega)).base (show w.heap.size<=w.heap.size+4 by omega);have hbe:=((((HBW.out.alloc (by omega) _).grown M8.out (by simp;omega) (λj hj=>by have :=(HV.out j hj).1;omega)).setCell (p:=⟨w.heap.size+1,0,none⟩) (aJ _) (.slice (some ⟨g,0,none⟩) (b.dF.length+2*b.steps.length+1) cap)).mono (show w.heap.size<=w.heap.size+1 by omega));rw [<-hwl, <-hnd] at zZ;refine ⟨w.heap.size+1,.slice (some ⟨g,0,none⟩) (b.dF.length+2*b.steps.length+1) cap,rfl,by omega,by simp [World.setCell] at hgs ⊢;omega,?_,?_⟩
        ·exact zZ
        ·exact AL.out.trans hbe
       ·have hd0:decide (0<=hand)=false:=by simpa using h0
        clear v0 v1c v2c vf0 vf1 vf2;go_wp2;go_ret;have hwl:fQ b hand=fq b b.dF.length++fU b hand b.steps.length:=by unfold fQ;rw [aa (by omega),List.append_nil]
        have hnd:(fe b hand:Int)=(b.steps.length:Int)+1:=by unfold fe;rw [aa (by omega)];simp
        exact ⟨w.heap.size+1,v2,rfl,by omega,by omega,by rw [hwl,hnd];exact HW.out.base (by omega),AL.out.trans (En.out.mono (by omega))⟩
end Go.Proofs
