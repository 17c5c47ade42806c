/- Part 20. -/
import Derived.Test.YtjoahejacacljaaGreatH19
set_option maxRecDepth 100000
set_option maxHeartbeats 0
set_option linter.all false
namespace Go.Proofs
open Go Go.RowKit Go.Maps
variable [Lo.St]
def Lo.ER{w:World}{B:Nat}{b:dO}{v:gJ}(hb:fC w B b v)(hB:B<=w.heap.size)(hg:b.good)(hand:Int)(hh: -1<=hand∧hand<=64):
 Calls Lo.prog 33 #[dY b v,.int .i64 hand] w (Vm w b hand):=by
 obtain⟨U,U2,U3,U4,U5,U6⟩:=Lo.facts;have C:=Lo.call Tryz.func62;have C2:=Lo.call Tryz.func61;have hmm:=@run_makeMap Lo.prog;obtain⟨i0,hi,hz0,hz1,hz2⟩:=info_parts Lo.Vk;have qT:=hg.n8;have bk:=hg.eV;have hsc:=hg.dA;obtain⟨h1,h2,h3,h4,h5,h6,_⟩:=hb;unfold dY;generalize v.ah=ah at h1⊢;generalize v.ch=ch;generalize v.ap=ap at h2⊢;generalize v.cp=cp;generalize v.iT=iT at h3⊢;generalize v.cs=cs;generalize v.ac=ac at h6⊢;generalize v.cc=cc;generalize v.sv=sv at h3 h4 h5;go_enter Lo.get Tryz.func33,Tryz.ntmps33;go_wp2;generalize YA:((((w.alloc (.cells #[.slice ah b.dJ.length ch,.slice ap b.dz.length cp,.slice iT b.steps.length cs,.slice ac b.dA.length cc] 40)).alloc (.cells #[.slice none 0 0,.int .i64 (b.steps.length:Int),.int .i64 ((b.steps.length:Int)+1)] 100)).alloc (.map #[] 0)).alloc (.map #[] 0))=W4;have sz4:W4.heap.size=w.heap.size+4:=by subst YA;simp
 have KZ:Below w.heap.size w W4:=by subst YA;exact(((((di _ _).alloc (aJ _) _).alloc (by simp) _).alloc (by simp;omega) _).alloc (by simp;omega) _)
 have mk4:mI W4 (w.heap.size+1+1) 0 []:=by subst YA;have :=(World.ownsMap_made (H:=Unit) ((w.alloc (.cells #[.slice ah b.dJ.length ch,.slice ap b.dz.length cp,.slice iT b.steps.length cs,.slice ac b.dA.length cc] 40)).alloc (.cells #[.slice none 0 0,.int .i64 (b.steps.length:Int),.int .i64 ((b.steps.length:Int)+1)] 100)) Lo.prog 3 (plainElem Lo.prog 3)).alloc (.map #[] 0);simpa[mI,yQ]using this
 have Pr:mI W4 (w.heap.size+1+1+1) 0 []:=by subst YA;have :=World.ownsMap_made (H:=Unit) (((w.alloc (.cells #[.slice ah b.dJ.length ch,.slice ap b.dz.length cp,.slice iT b.steps.length cs,.slice ac b.dA.length cc] 40)).alloc (.cells #[.slice none 0 0,.int .i64 (b.steps.length:Int),.int .i64 ((b.steps.length:Int)+1)] 100)).alloc (.map #[] 0)) Lo.prog 3 (plainElem Lo.prog 3);simpa[mI,yQ]using this
 have js:∀j:Nat,W4.cell? ⟨w.heap.size,j,none⟩=(#[Value.slice ah b.dJ.length ch,.slice ap b.dz.length cp,.slice iT b.steps.length cs,.slice ac b.dA.length cc]:Array Value)[j]?:=by subst YA;intro j;rw[dh _ _ _ (by simp;omega),dh _ _ _ (by simp;omega),dh _ _ _ (by simp),cO _ _ _ _ rfl]
 have qs:W4.heap[w.heap.size+1]?=some (.cells #[.slice none 0 0,.int .i64 (b.steps.length:Int),.int .i64 ((b.steps.length:Int)+1)] 100):=by subst YA;rw[cZ _ _ _ (by simp),cZ _ _ _ (by simp)];have :=heap_alloc_new (w.alloc (.cells #[.slice ah b.dJ.length ch,.slice ap b.dz.length cp,.slice iT b.steps.length cs,.slice ac b.dA.length cc] 40)) (.cells #[.slice none 0 0,.int .i64 (b.steps.length:Int),.int .i64 ((b.steps.length:Int)+1)] 100);simpa using this
 have hkeep:∀wr,Below (w.heap.size+1) W4 wr->∀b o,b<B->wr.cell? ⟨b,o,none⟩=w.cell? ⟨b,o,none⟩:= λwr hx b o hb=>(dH hx b o (by omega)).trans (dH KZ b o (by omega))
 clear YA;have HK:=dw hkeep;have vG:=dw js;have WU:=dw qs;have vR:=dw KZ;clear hkeep js qs KZ
 go_loopw [37] (λi wr=>∃k:Nat,k<=b.steps.length∧i=.int .i64 (k:Int)∧mI wr (w.heap.size+1+1) (64*k) (fP dW.outs b.steps k)∧mI wr (w.heap.size+1+1+1) (64*k) (fP dW.ins b.steps k)∧Below (w.heap.size+2) W4 wr) (λi _=>b.steps.length-(intOf i).toNat)
 case atStart=>exact⟨0,bg _,rfl,mk4,Pr,di _ _⟩
 case round=>
  obtain⟨k,hk,rfl,hmk,RN,hbl⟩:=hrel;clear mk4 Pr
  by_cases hlt:k<b.steps.length
  .have hlt':(k:Int)<(b.steps.length:Int):=by omega
   have hkp:=HK.out wr (hbl.mono (by omega));obtain⟨bb,off,rfl,hbb,hc⟩:=h3.keep hkp (by omega);obtain⟨k0,k1,k2,k3,k4,k5,k6⟩:=sZ hc hlt;have hsi:=hg.ins _ (aX hlt);have hso:=hg.outs _ (aX hlt);have hki:=hg.ki _ (aX hlt);have hko:=hg.ko _ (aX hlt);have YC:=h4 k _ (aN hlt);have hro:=h5 k _ (aN hlt);have Ds:=AJ dW.ins b.steps k hlt;have Hs:=AJ dW.outs b.steps k hlt;generalize b.steps[k]=s at *;generalize s.ins=li at *;generalize s.outs=lo at *;generalize(sv k).a1=a1 at *;generalize(sv k).a2=a2 at *;have HKP:=dw hkp;clear hkp;have sz:=hbl.size;have HM:=dw hmk;have HU:=dw RN;have zQ:=dw hbl;clear hmk RN hbl hc h3 h4 h5 h6 h1 h2;go_wp2;generalize rT:wr.alloc (.cells #[.int .i64 s.hand,.slice a1 li.length (sv k).c1,.slice a2 lo.length (sv k).c2,.int .i64 s.g0,.int .i64 s.g1,.int .i64 s.l0,.int .i64 s.l1] 36)=MP;have CT:MP.heap.size=wr.heap.size+1:=by subst rT;simp
   have c2:MP.cell? ⟨wr.heap.size,2,none⟩=some (.slice a2 lo.length (sv k).c2):=by subst rT;rw[cO _ _ _ _ rfl];rfl
   have hm1:mI MP (w.heap.size+1+1) (64*k) (fP dW.outs b.steps k):=by subst rT;exact HM.out.alloc _
   have hu1:mI MP (w.heap.size+1+1+1) (64*k) (fP dW.ins b.steps k):=by subst rT;exact HU.out.alloc _
   have hb1:Below (w.heap.size+2) W4 MP:=by subst rT;exact zQ.out.alloc (by omega) _
   clear rT HM HU zQ k0 k1 k2 k3 k4 k5 k6;generalize wr.heap.size=n1 at *;have Ks:=dw c2;have HM:=dw hm1;have HB1:=dw hb1;clear c2 hm1 hb1
   go_loopw [45] (λi wq=>∃j:Nat,j<=li.length∧i=.int .i64 (j:Int)∧mI wq (w.heap.size+1+1+1) (64*k+j) (oF dW.ins b.steps k li j)∧MP.grownBy wq (some (w.heap.size+1+1+1))) (λi _=>li.length-(intOf i).toNat)
   case atStart=>exact⟨0,bg _,rfl,by rw[yS];exact hu1,pX _ _⟩
   case round=>
    obtain⟨j,hj,rfl,hu,hgr⟩:=hrel;clear hu1
    by_cases hjl:j<li.length
    .have RA:(j:Int)<(li.length:Int):=by omega
     have hbq:Below (w.heap.size+2) W4 wr:=HB1.out.grown hgr (by omega) (λj hj=>by simp at hj;omega);obtain⟨bc,of,rfl,hbc,hcc⟩:=YC.keep (HK.out wr (hbq.mono (by omega))) (by omega);have r1:=Gj hcc hjl;have hkk:=hki _ (aX hjl);have hps:=yT dW.ins b.steps k li j hjl;generalize li[j]=p at *;have hkey:keyOf Lo.prog 3 (.int .i64 p)=some (kI p):=keyOf_int_mk Lo.Gq (Z6 hkk.1 hkk.2);have HG:=dw hgr;have HP:=dw hps;clear hcc hbq hgr hps YC
     go_wp2_with(first
      |(at_mapUpdate;refine wpList_mapUpdate_own _ rfl _ _ _ 115 rfl 3 3 Lo.RI Lo.CY _ (w.heap.size+1+1+1) _ _ rfl hu (by unfold maxLen;omega) _ _ _ rfl rfl hkey _ [] (plainElem_int Lo.Gq (Z6 (p:=(k:Int)) (by omega) (by omega))) ?_;intro w1 hown1 hgrow1)
      |go_in)
     have HO:=dw hown1;have YD:=dw hgrow1;clear hown1 hgrow1 hu;go_roundw
     case rel=>exact⟨j+1,by omega,by go_num,by rw[HP.out];exact WT HO.out,HG.out.trans YD.out⟩
     case measure=>simp[intOf];omega
    .obtain rfl:j=li.length:=by omega
     have c2:wr.cell? ⟨n1,2,none⟩=some (.slice a2 lo.length (sv k).c2):=by rw[dm (hgr.block n1 (by omega) (by simp;omega))];exact Ks.out
     have hm1:mI wr (w.heap.size+1+1) (64*k) (fP dW.outs b.steps k):=HM.out.kept hgr (by simp);have hb1:Below (w.heap.size+2) W4 wr:=HB1.out.grown hgr (by omega) (λj hj=>by simp at hj;omega);rw[AL, <-Ds]at hu;have HU:=dw (mI.up hu (show 64*k+li.length<=64*(k+1) by omega));have HB2:=dw hb1;have Ps:=dw hm1;have szr:=hb1.size;clear hu hgr HM HB1 hb1 hm1 Ks Ds YC;go_wp2;generalize wr=wr2 at *
     go_loopw [56] (λi wr=>∃j:Nat,j<=lo.length∧i=.int .i64 (j:Int)∧mI wr (w.heap.size+1+1) (64*k+j) (oF dW.outs b.steps k lo j)∧wr2.grownBy wr (some (w.heap.size+1+1))) (λi _=>lo.length-(intOf i).toNat)
     case atStart=>exact⟨0,bg _,rfl,by rw[yS];exact Ps.out,pX _ _⟩
     case round=>
      obtain⟨j,hj,rfl,hm,hgr⟩:=hrel;clear Ps
      by_cases hjl:j<lo.length
      .have RA:(j:Int)<(lo.length:Int):=by omega
       have hbq:Below (w.heap.size+2) W4 wr:=HB2.out.grown hgr (by omega) (λj hj=>by simp at hj;omega);obtain⟨bc,of,rfl,hbc,hcc⟩:=hro.keep (HK.out wr (hbq.mono (by omega))) (by omega);have r1:=Gj hcc hjl;have hkk:=hko _ (aX hjl);have hps:=yT dW.outs b.steps k lo j hjl;generalize lo[j]=p at *;have hkey:keyOf Lo.prog 3 (.int .i64 p)=some (kI p):=keyOf_int_mk Lo.Gq (Z6 hkk.1 hkk.2);have HG:=dw hgr;have HP:=dw hps;clear hcc hbq hgr hps hro
       go_wp2_with(first
        |(at_mapUpdate;refine wpList_mapUpdate_own _ rfl _ _ _ 115 rfl 3 3 Lo.RI Lo.CY _ (w.heap.size+1+1) _ _ rfl hm (by unfold maxLen;omega) _ _ _ rfl rfl hkey _ [] (plainElem_int Lo.Gq (Z6 (p:=(k:Int)) (by omega) (by omega))) ?_;intro w1 hown1 hgrow1)
        |go_in)
       have HO:=dw hown1;have YD:=dw hgrow1;clear hown1 hgrow1 hm;go_roundw
       case rel=>exact⟨j+1,by omega,by go_num,by rw[HP.out];exact WT HO.out,HG.out.trans YD.out⟩
       case measure=>simp[intOf];omega
      .obtain rfl:j=lo.length:=by omega
       have hu1:mI wr (w.heap.size+1+1+1) (64*(k+1)) (fP dW.ins b.steps (k+1)):=HU.out.kept hgr (by simp);have hb1:Below (w.heap.size+2) W4 wr:=HB2.out.grown hgr (by omega) (λj hj=>by simp at hj;omega);rw[AL, <-Hs]at hm;have Dg:=dw (mI.up hm (show 64*k+lo.length<=64*(k+1) by omega));have Kg:=dw hu1;have HB3:=dw hb1;clear hm hgr HU HB2 hb1 hu1 Hs hro;go_wp2;go_roundw
       case rel=>exact⟨k+1,by omega,by go_num,Dg.out,Kg.out,HB3.out⟩
       case measure=>simp[intOf];omega
  .obtain rfl:k=b.steps.length:=by omega
   have Rg:wr.cell? ⟨w.heap.size,1,none⟩=some (.slice ap b.dz.length cp):=(dH hbl _ _ (by omega)).trans (vG.out 1);have c03:wr.cell? ⟨w.heap.size,3,none⟩=some (.slice ac b.dA.length cc):=(dH hbl _ _ (by omega)).trans (vG.out 3);have Ss:wr.cell? ⟨w.heap.size,2,none⟩=some (.slice iT b.steps.length cs):=(dH hbl _ _ (by omega)).trans (vG.out 2);have hbw:wr.heap[w.heap.size+1]?=some (.cells #[.slice none 0 0,.int .i64 (b.steps.length:Int),.int .i64 ((b.steps.length:Int)+1)] 100):=(hbl.block _ (by omega)).trans WU.out
   go_wp2;have Ts:mI wr (w.heap.size+1+1) 1024 (fP dW.outs b.steps b.steps.length):=mI.up hmk (by omega);have Xs:mI wr (w.heap.size+1+1+1) 1024 (fP dW.ins b.steps b.steps.length):=mI.up RN (by omega);have hb5:Below (w.heap.size+1) W4 wr:=hbl.mono (by omega);have sz5:=hbl.size;have Ys:∀wq,Below (w.heap.size+1) W4 wq->∀j:Nat,wq.cell? ⟨w.heap.size,j,none⟩=(#[Value.slice ah b.dJ.length ch,.slice ap b.dz.length cp,.slice iT b.steps.length cs,.slice ac b.dA.length cc]:Array Value)[j]?:= λwq hx j=>(dH hx _ _ (by omega)).trans (vG.out j)
   have D6:=dw Ys;have ct:fQ wr (w.heap.size+1) (w.heap.size+4) b.steps.length ((b.steps.length:Int)+1) (eG b 0) (.slice none 0 0):=⟨hbw,World.ownsRow_nil _ _ _ _,cS.dU.nil _⟩;clear hmk RN hbl Ys vG WU Rg c03 Ss hbw
   go_loopw [68] (λi wr=>∃k:Nat,∃v:Value,k<=b.dz.length∧i=.int .i64 (k:Int)∧fQ wr (w.heap.size+1) (w.heap.size+4) b.steps.length ((b.steps.length:Int)+1) (eG b k) v∧mI wr (w.heap.size+1+1) 1024 (fP dW.outs b.steps b.steps.length)∧mI wr (w.heap.size+1+1+1) 1024 (fP dW.ins b.steps b.steps.length)∧Below (w.heap.size+1) W4 wr∧w.heap.size+4<=wr.heap.size) (λi _=>b.dz.length-(intOf i).toNat)
   case atStart=>exact⟨0,_,bg _,rfl,ct,Ts,Xs,hb5,by omega⟩
   case round=>
    obtain⟨k,v1,hk,rfl,qQ,hmk,RN,hbl,hsz⟩:=hrel;clear ct Ts Xs hb5 sz5
    by_cases hlt:k<b.dz.length
    .have hlt':(k:Int)<(b.dz.length:Int):=by omega
     have HW:=dw qQ;have HM:=dw hmk;have HU:=dw RN;have zQ:=dw hbl;have c03:∀o,(wr.alloc o).cell? ⟨w.heap.size,3,none⟩=some (.slice ac b.dA.length cc):= λo=>(dh _ _ _ (by show w.heap.size<_;omega)).trans (D6.out wr hbl 3)
     clear qQ hmk RN hbl;go_wp2;generalize rT:wr.alloc (.cells #[.int .i64 0,.int .i64 1000000] 117)=wr3;have JT:wr3.heap.size=wr.heap.size+1:=by subst rT;simp
     have hx3:wr3.heap[wr.heap.size]?=some (.cells #[.int .i64 0,.int .i64 1000000] 117):=by subst rT;exact heap_alloc_new wr _
     have hg3:wr.grownBy wr3 none:=by subst rT;exact World.grownBy_alloc wr _ none
     have hw3:fQ wr3 (w.heap.size+1) (w.heap.size+4) b.steps.length ((b.steps.length:Int)+1) (eG b k) v1:=⟨(hg3.block _ (by omega) (by simp)).trans HW.out.blk,by subst rT;exact HW.out.row.alloc _,by subst rT;exact HW.out.pl.alloc _⟩;have dt:mI wr3 (w.heap.size+1+1) 1024 (fP dW.outs b.steps b.steps.length):=HM.out.kept hg3 (by simp);have hu3:mI wr3 (w.heap.size+1+1+1) 1024 (fP dW.ins b.steps b.steps.length):=HU.out.kept hg3 (by simp);have hb3:Below (w.heap.size+1) W4 wr3:=zQ.out.grown hg3 (by omega) (λj hj=>by simp at hj);have hv1:=HW.out.row.lt;clear rT HW HM HU zQ hg3 c03;generalize wr.heap.size=nx at *;have HW:=dw hw3;have HM:=dw dt;have HU:=dw hu3;have zQ:=dw hb3;have HX:=dw hx3;have HV:=dw hv1;clear hw3 dt hu3 hb3 hx3 hv1
     go_loopw [75] (λi wr=>∃j:Nat,j<=b.dA.length∧i=.int .i64 (j:Int)∧wr.heap[nx]?=some (.cells #[.int .i64 (je (b.dA.take j) k).1,.int .i64 (je (b.dA.take j) k).2] 117)∧wr3.grownBy wr (some nx)) (λi _=>b.dA.length-(intOf i).toNat)
     case atStart=>exact⟨0,bg _,rfl,HX.out,pX _ _⟩
     case round=>
      obtain⟨j,hj,rfl,hx,hgr⟩:=hrel;clear HX
      by_cases hjl:j<b.dA.length
      .have RA:(j:Int)<(b.dA.length:Int):=by omega
       have hbq:Below (w.heap.size+1) W4 wr:=zQ.out.grown hgr (by omega) (λj hj=>by simp at hj;omega);obtain⟨bc,of,rfl,hbc,hcc⟩:=h6.keep (HK.out wr hbq) (by omega);obtain⟨r0,r1,r2⟩:=CU hcc hjl;have hps:=ao4 b.dA k j hjl;generalize b.dA[j]=sc at *;generalize je (b.dA.take j) k=x at *;have szr:=hgr.size;have HG:=dw hgr;have HP:=dw hps;have HX:=dw hx;have hxs:=KV hx;have ck:=dw hxs;clear hcc hbq hgr hps hx hxs
       by_cases hp:sc.pile=k
       .have hpd:(sc.pile==(k:Int))=true:=by simpa using hp
        go_wp2;generalize Je:wr.alloc (.cells #[.int .i64 (k:Int),.int .i64 sc.lo,.int .i64 sc.hi] 42)=wA;have szA:wA.heap.size=wr.heap.size+1:=by subst Je;simp
        have hgA:wr.grownBy wA none:=by subst Je;exact World.grownBy_alloc wr _ none
        have x0:wA.cell? ⟨nx,0,none⟩=some (.int .i64 x.1):=(dm (hgA.block nx (by omega) (by simp))).trans ck.out.1;have x1:wA.cell? ⟨nx,1,none⟩=some (.int .i64 x.2):=(dm (hgA.block nx (by omega) (by simp))).trans ck.out.2.1;have s1:wA.cell? ⟨wr.heap.size,1,none⟩=some (.int .i64 sc.lo):=by subst Je;rw[cO _ _ _ _ rfl];rfl
        have s2:wA.cell? ⟨wr.heap.size,2,none⟩=some (.int .i64 sc.hi):=by subst Je;rw[cO _ _ _ _ rfl];rfl
        have hAx:wA.heap[nx]?=some (.cells #[.int .i64 x.1,.int .i64 x.2] 117):=(hgA.block nx (by omega) (by simp)).trans HX.out
        obtain⟨_,_,xf0,xf1⟩:=KV hAx;have HAX:=dw hAx;have bh:=dw hgA;clear Je hAx hgA;generalize wr.heap.size=nr at *;apply Jd (λw2=>wr3.grownBy w2 (some nx)∧w2.heap[nx]?=some (.cells #[.int .i64 (max x.1 sc.lo),.int .i64 (min x.2 sc.hi)] 117))
        case h1=>
         intro Q' hK
         go_region_with (first
          |(go_at_call 62
            refine(Lo.l9 _ _ _).mono ?_
            rintro e w1⟨rfl,hb1⟩;have y0:=(dH hb1 nx 0 (by show nx<wA.heap.size;omega)).trans x0;have y1:=(dH hb1 nx 1 (by show nx<wA.heap.size;omega)).trans x1;have yf0:=(Bv hb1 nx 0 (by show nx<wA.heap.size;omega)).trans xf0;have yf1:=(Bv hb1 nx 1 (by show nx<wA.heap.size;omega)).trans xf1;have yz:wA.heap.size<=w1.heap.size:=hb1.size;have HY:=dw hb1;clear hb1)
          |(go_at_call 61
            refine(Lo.Rk _ _ _ _ _).mono ?_
            rintro e w2⟨rfl,hb2⟩;have z0:=(dH hb2 nx 0 (by omega)).trans y0;have z1:=(dH hb2 nx 1 (by omega)).trans y1;have zf0:=(Bv hb2 nx 0 (by omega)).trans yf0;have zf1:=(Bv hb2 nx 1 (by omega)).trans yf1;have HZ:=dw hb2;clear hb2))
         all_goals
          have hx2:w2.heap[nx]?=some (.cells #[.int .i64 x.1,.int .i64 x.2] 117):=(HZ.out.block nx (by omega)).trans ((HY.out.block nx (by show nx<wA.heap.size;omega)).trans HAX.out)
          have hg2:wr3.grownBy w2 (some nx):=pW (pW (pW (pW HG.out bh.out (by simp)) (KU wA none) (by simp)) (below_grown HY.out rfl none) (by simp)) (below_grown HZ.out rfl none) (by simp);exact hK _ ⟨(hg2.trans (lK _ _ _ _)).trans (lK _ _ _ _),Vl hx2⟩
        case h2=>
         rintro w2⟨hg2,hx2⟩;have WV:=dw hx2;have HG2:=dw hg2;clear hx2 hg2 x0 x1 xf0 xf1 ck;go_wp2;go_roundw
         case rel=>exact⟨j+1,by omega,by go_num,by rw[HP.out];unfold PU;rw[aj hp];exact WV.out,HG2.out⟩
         case measure=>simp[intOf];omega
       .have hpd:(sc.pile==(k:Int))=false:=by simpa using hp
        go_wp2;go_roundw
        case rel=>exact⟨j+1,by omega,by go_num,by rw[HP.out];unfold PU;rw[aa hp];exact(cZ _ _ _ (by omega)).trans HX.out,pW HG.out (World.grownBy_alloc _ _ (some nx)) (λj hj=>.inr (by simp at hj;simp[hj]))⟩
        case measure=>simp[intOf];omega
      .obtain rfl:j=b.dA.length:=by omega
       rw[List.take_length]at hx;have hbq:Below (w.heap.size+1) W4 wr:=zQ.out.grown hgr (by omega) (λj hj=>by simp at hj;omega)
       have et:v1.ownBlock=none∨v1.ownBlock≠some nx:=by
        cases e:v1.ownBlock with
        |none=>exact .inl rfl
        |some g=>exact .inr (by have :=(HV.out g e).2;simp;omega)
       have hw4:fQ wr (w.heap.size+1) (w.heap.size+4) b.steps.length ((b.steps.length:Int)+1) (eG b k) v1:=⟨(hgr.block _ (by omega) (by simp;omega)).trans HW.out.blk,HW.out.row.kept hgr et,HW.out.pl.keep λg hg=>hgr.block g (by have :=(HV.out g hg).2;omega) (λe=>by have :=(HV.out g hg).2;simp at e;omega)⟩;have fk:mI wr (w.heap.size+1+1) 1024 (fP dW.outs b.steps b.steps.length):=HM.out.kept hgr (by simp;omega);have YE:mI wr (w.heap.size+1+1+1) 1024 (fP dW.ins b.steps b.steps.length):=HU.out.kept hgr (by simp;omega);have szr:=hgr.size;have hkey:keyOf Lo.prog 3 (.int .i64 (k:Int))=some (kI k):=keyOf_int_mk Lo.Gq (Z6 (by omega) (by omega));obtain⟨cm,hlk,hcm,_⟩:=fk.drew.lookup_int Lo.RI Lo.CY Lo.Gq (Lo.RJ _) hkey;rw[ML]at hcm;have hcm:tq b.steps k=cm:=RD hcm;have hmb:=MM b.steps k;have hub:=RF b.steps k;have hps:mh b k=⟨(je b.dA k).1,(je b.dA k).2,(tq b.steps k).toNat,((qO b.steps k).getD b.steps.length).toNat⟩:=rfl;rw[hcm]at hmb hps;generalize je b.dA k=x at *;obtain⟨x0,x1,_,_⟩:=KV hx;obtain⟨v0,_,_,eh,_,_⟩:=iG hw4.blk;have x0d:wr.drew.cell? ⟨nx,0,none⟩=some (.int .i64 x.1):=x0;have ft:wr.drew.cell? ⟨nx,1,none⟩=some (.int .i64 x.2):=x1;have jt:wr.drew.cell? ⟨w.heap.size+1,0,none⟩=some v1:=v0;have mt:∀o,(wr.alloc o).cell? ⟨w.heap.size+1,0,none⟩=some v1:= λo=>(dh _ _ _ (by show w.heap.size+1<wr.heap.size;omega)).trans v0
       have Z7:=dw hps;have WW:=dw hw4;have fh:=dw fk;have HU4:=dw YE;have RQ:=dw hbq;have Z8:=dw hub;have gh:=dw hmb;have hhas:=RB (fP dW.ins b.steps b.steps.length) k;have Vn:=ML (fP dW.ins b.steps b.steps.length) k 0;have hlen:=gU b k;clear hx x0 x1 v0 hw4 fk hbq hgr HW HM HU zQ hps hub hmb hcm et;cases WX:qO b.steps k with
       |none=>
        have hd:Maps.has (yQ (fP dW.ins b.steps b.steps.length)) (kI k)=false:=by rw[hhas];unfold qO at WX;rw[WX];rfl
        clear hhas Vn
        go_wp2_with(first
         |(at_lookup;refine wpList_lookup_own_ok_int _ rfl _ _ 115 rfl 3 3 .i64 Lo.RI Lo.CY Lo.Gq (Lo.RJ _) (w.heap.size+1+1+1) _ _ rfl YE _ _ rfl hkey ?_;intro c hat hwc;rw[hd];clear hat hwc)
         |go_in)
        have rc:=dw hlk;have xc:=dw YE;have hsum:(eG b k).length+1<=64:=by omega
        rw[WX]at Z7 Z8;have hpc:=C9 Z7.out gh.out.1 Z8.out.1;have RS:=dw hpc;clear YE hlk hd hkey hpc;have hlk2:=rc.out;apply AP (λg cap wx=>fQ wx (w.heap.size+1) (w.heap.size+4) b.steps.length ((b.steps.length:Int)+1) (eG b (k+1)) (.slice (some ⟨g,0,none⟩) (k+1) cap)∧mI wx (w.heap.size+1+1) 1024 (fP dW.outs b.steps b.steps.length)∧mI wx (w.heap.size+1+1+1) 1024 (fP dW.ins b.steps b.steps.length)∧Below (w.heap.size+1) W4 wx∧w.heap.size+4<=wx.heap.size)
        case h1=>
         intro Q' hK
         go_region_law ((refine cS.lX rfl (.tmp 102) (.tmp 109) 98 rfl (w.heap.size+4) 122 i0 (.agg #[.int .i64 0,.int .i64 0,.int .i64 0,.int .i64 0]) 4 32 Lo.Jb hi hz0 hz1 hz2 rfl (by decide) v1 (eG b k).length (iW (eG b k)) rfl (WW.out.row.drew.alloc _) ⟨wr.heap.size,0,none⟩ 1 1 [.int .i64 x.1,.int .i64 x.2,.int .i64 cm,.int .i64 (b.steps.length:Int)] rfl rfl (World.news_of_block (heap_alloc_new wr.drew _)) (by simp[Value.oneCell']) (by omega) (by unfold maxLen;omega) (by omega) (by simp;omega) (wr.heap.size+1) (by simp) ((show cS.dU wr.drew v1 from WW.out.pl).alloc _) (by intro u hu;simp at hu;rcases hu with rfl|rfl|rfl|rfl<;>rfl) (by intro u hu;simp[Value.cells]at hu;subst hu;rfl) ?_
                         intro g cap w1 hown1 hgrow hat hlt1 uQ;have hbk:=MO WW.out hgrow (by omega) (by omega);have c0:=(iG hbk).1;have f0:=(iG hbk).2.2.2.1;have vG:=dw hbk;have HOW:=dw hown1;have Jf:=dw hgrow;have RU:=dw uQ;clear hbk hown1 hgrow hat uQ))
         all_goals
          refine hK g cap _ ⟨?_,((fh.out.drew.alloc _).kept Jf.out ?_).kept (lK _ _ _ _) (λe=>by have :=aT e;omega),((xc.out.drew.alloc _).kept Jf.out ?_).kept (lK _ _ _ _) (λe=>by have :=aT e;omega),((RQ.out.drew.alloc (by show w.heap.size+1<=wr.heap.size;omega) _).grown Jf.out (by simp;omega) (λj hj=>by have :=(HV.out j hj).1;omega)).setCell (aJ _) _,?_⟩
          .rw[yU];have :=fQ.step (ss:=eG b k) (news:=[mh b k]) (g:=g) (cap:=cap) (m:=k+1) vG.out (by rw[<-RS.out];simpa[gU]using HOW.out) (by simp[gU]) (by simpa[gU]using RU.out) (by omega);simpa[gU]using this
          .intro e;have :=(HV.out _ e.symm).1;omega
          .intro e;have :=(HV.out _ e.symm).1;omega
          .have :=Jf.out.size;simp[World.setCell]at this⊢;omega
        case h2=>
         rintro g cap wx⟨q1,q2,q3,q4,q5⟩;have Q1:=dw q1;have Q2:=dw q2;have Q3:=dw q3;have Q4:=dw q4;clear q1 q2 q3 q4 WW fh xc RQ x0d ft jt mt eh hlk2 rc RS Z7 Z8 gh;go_wp2;go_roundw
         case rel=>exact⟨k+1,_,by omega,by go_num,Q1.out,Q2.out,Q3.out,Q4.out,q5⟩
         case measure=>simp[intOf];omega
       |some iu=>
        have hd:Maps.has (yQ (fP dW.ins b.steps b.steps.length)) (kI k)=true:=by rw[hhas];unfold qO at WX;rw[WX];rfl
        have hiu:(qg (fP dW.ins b.steps b.steps.length) k).getD 0=iu:=by unfold qO at WX;rw[WX];rfl
        rw[hiu]at Vn;have HAT:=dw Vn;clear hhas Vn hiu
        go_wp2_with(first
         |(at_lookup;refine wpList_lookup_own_ok_int _ rfl _ _ 115 rfl 3 3 .i64 Lo.RI Lo.CY Lo.Gq (Lo.RJ _) (w.heap.size+1+1+1) _ _ rfl YE _ _ rfl hkey ?_;intro c hat hwc;rw[hd];have Ug:=RD (HAT.out.symm.trans hat);have YF:=dw Ug;clear hat hwc Ug)
         |go_in)
        have rc:=dw hlk;have xc:=dw YE;have hsum:(eG b k).length+1<=64:=by omega
        rw[WX,YF.out]at Z7 Z8;have hpc:=C9 Z7.out gh.out.1 Z8.out.1;have RS:=dw hpc;clear YE hlk hd hkey hpc;have hlk2:=rc.out;apply AP (λg cap wx=>fQ wx (w.heap.size+1) (w.heap.size+4) b.steps.length ((b.steps.length:Int)+1) (eG b (k+1)) (.slice (some ⟨g,0,none⟩) (k+1) cap)∧mI wx (w.heap.size+1+1) 1024 (fP dW.outs b.steps b.steps.length)∧mI wx (w.heap.size+1+1+1) 1024 (fP dW.ins b.steps b.steps.length)∧Below (w.heap.size+1) W4 wx∧w.heap.size+4<=wx.heap.size)
        case h1=>
         intro Q' hK
         go_region_law ((refine cS.lX rfl (.tmp 102) (.tmp 109) 98 rfl (w.heap.size+4) 122 i0 (.agg #[.int .i64 0,.int .i64 0,.int .i64 0,.int .i64 0]) 4 32 Lo.Jb hi hz0 hz1 hz2 rfl (by decide) v1 (eG b k).length (iW (eG b k)) rfl (WW.out.row.drew.alloc _) ⟨wr.heap.size,0,none⟩ 1 1 [.int .i64 x.1,.int .i64 x.2,.int .i64 cm,.int .i64 c] rfl rfl (World.news_of_block (heap_alloc_new wr.drew _)) (by simp[Value.oneCell']) (by omega) (by unfold maxLen;omega) (by omega) (by simp;omega) (wr.heap.size+1) (by simp) ((show cS.dU wr.drew v1 from WW.out.pl).alloc _) (by intro u hu;simp at hu;rcases hu with rfl|rfl|rfl|rfl<;>rfl) (by intro u hu;simp[Value.cells]at hu;subst hu;rfl) ?_
                         intro g cap w1 hown1 hgrow hat hlt1 uQ;have hbk:=MO WW.out hgrow (by omega) (by omega);have c0:=(iG hbk).1;have f0:=(iG hbk).2.2.2.1;have vG:=dw hbk;have HOW:=dw hown1;have Jf:=dw hgrow;have RU:=dw uQ;clear hbk hown1 hgrow hat uQ))
         all_goals
          refine hK g cap _ ⟨?_,((fh.out.drew.alloc _).kept Jf.out ?_).kept (lK _ _ _ _) (λe=>by have :=aT e;omega),((xc.out.drew.alloc _).kept Jf.out ?_).kept (lK _ _ _ _) (λe=>by have :=aT e;omega),((RQ.out.drew.alloc (by show w.heap.size+1<=wr.heap.size;omega) _).grown Jf.out (by simp;omega) (λj hj=>by have :=(HV.out j hj).1;omega)).setCell (aJ _) _,?_⟩
          .rw[yU];have :=fQ.step (ss:=eG b k) (news:=[mh b k]) (g:=g) (cap:=cap) (m:=k+1) vG.out (by rw[<-RS.out];simpa[gU]using HOW.out) (by simp[gU]) (by simpa[gU]using RU.out) (by omega);simpa[gU]using this
          .intro e;have :=(HV.out _ e.symm).1;omega
          .intro e;have :=(HV.out _ e.symm).1;omega
          .have :=Jf.out.size;simp[World.setCell]at this⊢;omega
        case h2=>
         rintro g cap wx⟨q1,q2,q3,q4,q5⟩;have Q1:=dw q1;have Q2:=dw q2;have Q3:=dw q3;have Q4:=dw q4;clear q1 q2 q3 q4 WW fh xc RQ x0d ft jt mt eh hlk2 rc RS Z7 Z8 gh;go_wp2;go_roundw
         case rel=>exact⟨k+1,_,by omega,by go_num,Q1.out,Q2.out,Q3.out,Q4.out,q5⟩
         case measure=>simp[intOf];omega
    .obtain rfl:k=b.dz.length:=by omega
     have HW:=dw qQ;have zQ:=dw hbl;have Ss:wr.cell? ⟨w.heap.size,2,none⟩=some (.slice iT b.steps.length cs):=D6.out wr hbl 2;have hv1:=qQ.row.lt;have HV:=dw hv1;clear qQ hmk RN hbl hv1;go_wp2;generalize wr=wr5 at *;have hsz5:=hsz
     go_loopw [117] (λi wr=>∃k:Nat,∃v:Value,k<=b.steps.length∧i=.int .i64 (k:Int)∧fQ wr (w.heap.size+1) (w.heap.size+4) b.steps.length ((b.steps.length:Int)+1) (eG b b.dz.length++fq b hand k) v∧Below (w.heap.size+1) W4 wr∧w.heap.size+4<=wr.heap.size) (λi _=>b.steps.length-(intOf i).toNat)
     case atStart=>exact⟨0,_,bg _,rfl,by simpa[fq]using HW.out,zQ.out,hsz5⟩
     case round=>
      obtain⟨k,v2,hk,rfl,qQ,hbl,hsz⟩:=hrel;clear HW zQ HV
      by_cases hlt:k<b.steps.length
      .have hlt':(k:Int)<(b.steps.length:Int):=by omega
       have hkp:=HK.out wr (hbl.mono (by omega));obtain⟨bb,off,rfl,hbb,hc⟩:=h3.keep hkp (by omega);obtain⟨k0,k1,k2,k3,k4,k5,k6⟩:=sZ hc hlt
       have hst:fq b hand (k+1)=fq b hand k++nT b.steps.length hand k b.steps[k]:=by show fq b hand k++_=_;rw[aN hlt]
       have hlen:=qA b hand k (by omega);generalize b.steps[k]=s at *;have HST:=dw hst;have HW:=dw qQ;have zQ:=dw hbl;have hv2:=qQ.row.lt;have HV:=dw hv2;clear hkp hc hst qQ hbl hv2
       by_cases kh:s.hand=hand
       .have hhd:(s.hand==hand)=true:=by simpa using kh
        go_wp2;generalize Je:wr.alloc (.cells #[.int .i64 hand,.slice (sv k).a1 s.ins.length (sv k).c1,.slice (sv k).a2 s.outs.length (sv k).c2,.int .i64 s.g0,.int .i64 s.g1,.int .i64 s.l0,.int .i64 s.l1] 36)=wA;have szA:wA.heap.size=wr.heap.size+1:=by subst Je;simp
        have a9:∀j:Nat,wA.cell? ⟨wr.heap.size,j,none⟩=(#[Value.int .i64 hand,.slice (sv k).a1 s.ins.length (sv k).c1,.slice (sv k).a2 s.outs.length (sv k).c2,.int .i64 s.g0,.int .i64 s.g1,.int .i64 s.l0,.int .i64 s.l1]:Array Value)[j]?:=by subst Je;intro j;rw[cO _ _ _ _ rfl]
        have a3:wA.cell? ⟨wr.heap.size,3,none⟩=some (.int .i64 s.g0):=a9 3;have a4:wA.cell? ⟨wr.heap.size,3+1,none⟩=some (.int .i64 s.g1):=a9 4;have a5:wA.cell? ⟨wr.heap.size,5,none⟩=some (.int .i64 s.l0):=a9 5;have a6:wA.cell? ⟨wr.heap.size,5+1,none⟩=some (.int .i64 s.l1):=a9 6;have YG:fQ wA (w.heap.size+1) (w.heap.size+4) b.steps.length ((b.steps.length:Int)+1) (eG b b.dz.length++fq b hand k) v2:=by subst Je;exact HW.out.alloc (by omega) _
        have Fc:Below (w.heap.size+1) W4 wA:=by subst Je;exact zQ.out.alloc (by omega) _
        have v0:=(iG YG.blk).1;have hpc:=step_cells (n:=b.steps.length) (k:=k) (hand:=hand) (s:=s) (tv:=(b.steps.length:Int)+1) (by rw[aj kh];simp);have hln:(eG b b.dz.length++fq b hand k).length=b.dz.length+2*k:=by rw[List.length_append,gU,hlen]
        have Hc:RL wr.heap.size s wA:=⟨a3,a4,a5,a6⟩;have SA:=dw Hc;have WA:=dw YG;have BA:=dw Fc;have RS:=dw hpc;clear Je a9 Hc YG Fc HW zQ hpc k0 k1 k2 k3 k4 k5 k6;generalize wr.heap.size=nr at *;apply AQ (λg cap q wx=>fQ wx (w.heap.size+1) (w.heap.size+4) b.steps.length ((b.steps.length:Int)+1) (eG b b.dz.length++fq b hand (k+1)) (.slice (some ⟨g,0,none⟩) (b.dz.length+2*k+2) cap)∧Below (w.heap.size+1) W4 wx∧w.heap.size+4<=wx.heap.size)
        case h1=>
         intro Q' hK
         go_region_law (first
          |(refine cS.lX rfl (.tmp 133) (.tmp 146) 98 rfl (w.heap.size+4) 122 i0 (.agg #[.int .i64 0,.int .i64 0,.int .i64 0,.int .i64 0]) 4 32 Lo.Jb hi hz0 hz1 hz2 rfl (by decide) v2 (eG b b.dz.length++fq b hand k).length (iW (eG b b.dz.length++fq b hand k)) rfl (ZW.out.row.alloc _) ⟨w2.heap.size,0,none⟩ 2 2 [.int .i64 s.g0,.int .i64 s.g1,.int .i64 (b.steps.length:Int),.int .i64 (k:Int),.int .i64 s.l0,.int .i64 s.l1,.int .i64 (k:Int),.int .i64 ((b.steps.length:Int)+1)] rfl rfl (World.news_of_block (heap_alloc_new w2 _)) (by simp[Value.oneCell']) (by omega) (by unfold maxLen;omega) (by omega) (by simp;omega) (w2.heap.size+1) (by simp) (ZW.out.pl.alloc _) (by intro u hu;simp at hu;rcases hu with rfl|rfl|rfl|rfl|rfl|rfl|rfl|rfl<;>rfl) (by intro u hu;simp[Value.cells]at hu;subst hu;rfl) ?_
            intro g cap w3 hown1 hgrow hat hlt1 uQ;have hbk:=Jc ZW.out hgrow (by omega) (by omega);have S3:=dw (RL.keep SZ.out ((hgrow.block nr (by simp;omega) (λe=>by have :=(HV.out nr e.symm).2;omega)).trans (cZ _ _ _ (by omega))));have c0:=(iG hbk).1;have f0:=(iG hbk).2.2.2.1;have vG:=dw hbk;have HOW:=dw hown1;have Jf:=dw hgrow;have RU:=dw uQ;clear hbk hown1 hgrow hat uQ)
          |(go_simp
            go_at_call 62
            refine(Lo.l9 _ _ _).mono ?_
            rintro e w2⟨rfl,hb2⟩;have SZ:=dw (RL.keep SY.out (hb2.block nr (by omega)));have z0:=(dH hb2 (w.heap.size+1) 0 (by omega)).trans y0;have zs:w1.heap.size<=w2.heap.size:=hb2.size;have za:∀o,(w2.alloc o).cell? ⟨w.heap.size+1,0,none⟩=some v2:= λo=>(dh _ _ _ (by show w.heap.size+1<w2.heap.size;omega)).trans z0
            have ZW:=dw (YW.out.below hb2 rfl (by omega));have ZB:=dw (YB.out.trans (hb2.mono (by omega)));clear hb2)
          |(go_simp
            go_at_call 62
            refine(Lo.l9 _ _ _).mono ?_
            rintro e w1⟨rfl,hb1⟩;have y0:=(dH hb1 (w.heap.size+1) 0 (by show w.heap.size+1<wA.heap.size;omega)).trans v0;have y5:=(dH hb1 nr 5 (by show nr<wA.heap.size;omega)).trans a5;have y6:=(dH hb1 nr (5+1) (by show nr<wA.heap.size;omega)).trans a6;have SY:=dw (RL.keep SA.out (hb1.block nr (by show nr<wA.heap.size;omega)));have ys:wA.heap.size<=w1.heap.size:=hb1.size;have YW:=dw (fQ.below (w:=wA.drew) (⟨WA.out.blk,WA.out.row.drew,WA.out.pl⟩:fQ wA.drew _ _ _ _ _ _) hb1 rfl (by show w.heap.size+1<wA.heap.size;omega));have YB:=dw (BA.out.drew.trans (hb1.mono (by show w.heap.size+1<=wA.heap.size;omega)));clear hb1))
         all_goals
          generalize w2.heap.size=q;refine hK g cap q _ ⟨?_,((ZB.out.alloc (by omega) _).grown Jf.out (by simp;omega) (λj hj=>by have :=(HV.out j hj).1;omega)).setCell (p:=⟨w.heap.size+1,0,none⟩) (aJ _) _,?_⟩
          .rw[HST.out, <-List.append_assoc];have :=fQ.step (ss:=eG b b.dz.length++fq b hand k) (news:=nT b.steps.length hand k s) (g:=g) (cap:=cap) (m:=b.dz.length+2*k+2) vG.out (by rw[<-RS.out];simpa only[hln]using HOW.out) (by rw[hln];rfl) (by simpa only[hln]using RU.out) (by omega);simpa only[hln]using this
          .have :=Jf.out.size;simp[World.setCell]at this⊢;omega
        case h2=>
         rintro g cap q wx⟨q1,q4,q5⟩;have Q1:=dw q1;have Q4:=dw q4;clear q1 q4 WA BA RS HST v0 a3 a4 a5 a6;go_wp2;go_roundw
         case rel=>exact⟨k+1,_,by omega,by go_num,Q1.out,Q4.out,q5⟩
         case measure=>simp[intOf];omega
       .have hhd:(s.hand==hand)=false:=by simpa using kh
        go_wp2;generalize Je:wr.alloc (.cells #[.int .i64 s.hand,.slice (sv k).a1 s.ins.length (sv k).c1,.slice (sv k).a2 s.outs.length (sv k).c2,.int .i64 s.g0,.int .i64 s.g1,.int .i64 s.l0,.int .i64 s.l1] 36)=wA;have szA:wA.heap.size=wr.heap.size+1:=by subst Je;simp
        have a9:∀j:Nat,wA.cell? ⟨wr.heap.size,j,none⟩=(#[Value.int .i64 s.hand,.slice (sv k).a1 s.ins.length (sv k).c1,.slice (sv k).a2 s.outs.length (sv k).c2,.int .i64 s.g0,.int .i64 s.g1,.int .i64 s.l0,.int .i64 s.l1]:Array Value)[j]?:=by subst Je;intro j;rw[cO _ _ _ _ rfl]
        have a3:wA.cell? ⟨wr.heap.size,3,none⟩=some (.int .i64 s.g0):=a9 3;have a4:wA.cell? ⟨wr.heap.size,3+1,none⟩=some (.int .i64 s.g1):=a9 4;have a5:wA.cell? ⟨wr.heap.size,5,none⟩=some (.int .i64 s.l0):=a9 5;have a6:wA.cell? ⟨wr.heap.size,5+1,none⟩=some (.int .i64 s.l1):=a9 6;have YG:fQ wA (w.heap.size+1) (w.heap.size+4) b.steps.length ((b.steps.length:Int)+1) (eG b b.dz.length++fq b hand k) v2:=by subst Je;exact HW.out.alloc (by omega) _
        have Fc:Below (w.heap.size+1) W4 wA:=by subst Je;exact zQ.out.alloc (by omega) _
        have v0:=(iG YG.blk).1;have hpc:=step_cells (n:=b.steps.length) (k:=k) (hand:=hand) (s:=s) (tv:=(b.steps.length:Int)) (by rw[aa kh]);have hln:(eG b b.dz.length++fq b hand k).length=b.dz.length+2*k:=by rw[List.length_append,gU,hlen]
        have Hc:RL wr.heap.size s wA:=⟨a3,a4,a5,a6⟩;have SA:=dw Hc;have WA:=dw YG;have BA:=dw Fc;have RS:=dw hpc;clear Je a9 Hc YG Fc HW zQ hpc k0 k1 k2 k3 k4 k5 k6;generalize wr.heap.size=nr at *;apply AQ (λg cap q wx=>fQ wx (w.heap.size+1) (w.heap.size+4) b.steps.length ((b.steps.length:Int)+1) (eG b b.dz.length++fq b hand (k+1)) (.slice (some ⟨g,0,none⟩) (b.dz.length+2*k+2) cap)∧Below (w.heap.size+1) W4 wx∧w.heap.size+4<=wx.heap.size)
        case h1=>
         intro Q' hK
         go_region_law (first
          |(refine cS.lX rfl (.tmp 133) (.tmp 146) 98 rfl (w.heap.size+4) 122 i0 (.agg #[.int .i64 0,.int .i64 0,.int .i64 0,.int .i64 0]) 4 32 Lo.Jb hi hz0 hz1 hz2 rfl (by decide) v2 (eG b b.dz.length++fq b hand k).length (iW (eG b b.dz.length++fq b hand k)) rfl (ZW.out.row.alloc _) ⟨w2.heap.size,0,none⟩ 2 2 [.int .i64 s.g0,.int .i64 s.g1,.int .i64 (b.steps.length:Int),.int .i64 (k:Int),.int .i64 s.l0,.int .i64 s.l1,.int .i64 (k:Int),.int .i64 ((b.steps.length:Int))] rfl rfl (World.news_of_block (heap_alloc_new w2 _)) (by simp[Value.oneCell']) (by omega) (by unfold maxLen;omega) (by omega) (by simp;omega) (w2.heap.size+1) (by simp) (ZW.out.pl.alloc _) (by intro u hu;simp at hu;rcases hu with rfl|rfl|rfl|rfl|rfl|rfl|rfl|rfl<;>rfl) (by intro u hu;simp[Value.cells]at hu;subst hu;rfl) ?_
            intro g cap w3 hown1 hgrow hat hlt1 uQ;have hbk:=Jc ZW.out hgrow (by omega) (by omega);have S3:=dw (RL.keep SZ.out ((hgrow.block nr (by simp;omega) (λe=>by have :=(HV.out nr e.symm).2;omega)).trans (cZ _ _ _ (by omega))));have c0:=(iG hbk).1;have f0:=(iG hbk).2.2.2.1;have vG:=dw hbk;have HOW:=dw hown1;have Jf:=dw hgrow;have RU:=dw uQ;clear hbk hown1 hgrow hat uQ)
          |(go_simp
            go_at_call 62
            refine(Lo.l9 _ _ _).mono ?_
            rintro e w2⟨rfl,hb2⟩;have SZ:=dw (RL.keep SY.out (hb2.block nr (by omega)));have z0:=(dH hb2 (w.heap.size+1) 0 (by omega)).trans y0;have zs:w1.heap.size<=w2.heap.size:=hb2.size;have za:∀o,(w2.alloc o).cell? ⟨w.heap.size+1,0,none⟩=some v2:= λo=>(dh _ _ _ (by show w.heap.size+1<w2.heap.size;omega)).trans z0
            have ZW:=dw (YW.out.below hb2 rfl (by omega));have ZB:=dw (YB.out.trans (hb2.mono (by omega)));clear hb2)
          |(go_simp
            go_at_call 62
            refine(Lo.l9 _ _ _).mono ?_
            rintro e w1⟨rfl,hb1⟩;have y0:=(dH hb1 (w.heap.size+1) 0 (by show w.heap.size+1<wA.heap.size;omega)).trans v0;have y5:=(dH hb1 nr 5 (by show nr<wA.heap.size;omega)).trans a5;have y6:=(dH hb1 nr (5+1) (by show nr<wA.heap.size;omega)).trans a6;have SY:=dw (RL.keep SA.out (hb1.block nr (by show nr<wA.heap.size;omega)));have ys:wA.heap.size<=w1.heap.size:=hb1.size;have YW:=dw (fQ.below (w:=wA.drew) (⟨WA.out.blk,WA.out.row.drew,WA.out.pl⟩:fQ wA.drew _ _ _ _ _ _) hb1 rfl (by show w.heap.size+1<wA.heap.size;omega));have YB:=dw (BA.out.drew.trans (hb1.mono (by show w.heap.size+1<=wA.heap.size;omega)));clear hb1))
         all_goals
          generalize w2.heap.size=q;refine hK g cap q _ ⟨?_,((ZB.out.alloc (by omega) _).grown Jf.out (by simp;omega) (λj hj=>by have :=(HV.out j hj).1;omega)).setCell (p:=⟨w.heap.size+1,0,none⟩) (aJ _) _,?_⟩
          .rw[HST.out, <-List.append_assoc];have :=fQ.step (ss:=eG b b.dz.length++fq b hand k) (news:=nT b.steps.length hand k s) (g:=g) (cap:=cap) (m:=b.dz.length+2*k+2) vG.out (by rw[<-RS.out];simpa only[hln]using HOW.out) (by rw[hln];rfl) (by simpa only[hln]using RU.out) (by omega);simpa only[hln]using this
          .have :=Jf.out.size;simp[World.setCell]at this⊢;omega
        case h2=>
         rintro g cap q wx⟨q1,q4,q5⟩;have Q1:=dw q1;have Q4:=dw q4;clear q1 q4 WA BA RS HST v0 a3 a4 a5 a6;go_wp2;go_roundw
         case rel=>exact⟨k+1,_,by omega,by go_num,Q1.out,Q4.out,q5⟩
         case measure=>simp[intOf];omega
      .obtain rfl:k=b.steps.length:=by omega
       have hln:(eG b b.dz.length++fq b hand b.steps.length).length=b.dz.length+2*b.steps.length:=by rw[List.length_append,gU,qA b hand _ (aJ _)]
       obtain⟨v0,v1c,v2c,eh,vf1,vf2⟩:=iG qQ.blk;have hv2:=qQ.row.lt;have HV:=dw hv2;have HW:=dw qQ;have zQ:=dw hbl;clear qQ hbl hv2
       by_cases h0:0<=hand
       .have hd0:decide (0<=hand)=true:=by simpa using h0
        have hw2:(wr.setCell ⟨w.heap.size+1,2,none⟩ (.int .i64 ((b.steps.length:Int)+1+1))).heap[w.heap.size+1]?=some (.cells #[v2,.int .i64 (b.steps.length:Int),.int .i64 ((b.steps.length:Int)+1+1)] 100):=KY HW.out.blk
        obtain⟨w0,_,_,wf0,_,_⟩:=iG hw2
        have hrow:(wr.setCell ⟨w.heap.size+1,2,none⟩ (.int .i64 ((b.steps.length:Int)+1+1))).ownsRow (w.heap.size+4) 122 4 v2 (eG b b.dz.length++fq b hand b.steps.length).length (iW (eG b b.dz.length++fq b hand b.steps.length)):=HW.out.row.kept (lK _ _ _ _) (by
         cases e:v2.ownBlock with
         |none=>exact .inl rfl
         |some g=>exact .inr (by have :=(HV.out g e).1;simp;omega))
        have nt:cS.dU (wr.setCell ⟨w.heap.size+1,2,none⟩ (.int .i64 ((b.steps.length:Int)+1+1))) v2:=HW.out.pl.keep λg hg=>Below.heap_setCell _ _ _ _ (by have :=(HV.out g hg).1;show g≠w.heap.size+1;omega)
        have hbw:Below (w.heap.size+1) W4 (wr.setCell ⟨w.heap.size+1,2,none⟩ (.int .i64 ((b.steps.length:Int)+1+1))):=zQ.out.setCell (p:=⟨w.heap.size+1,2,none⟩) (aJ _) _;have au2:(wr.setCell ⟨w.heap.size+1,2,none⟩ (.int .i64 ((b.steps.length:Int)+1+1))).heap.size=wr.heap.size:=by simp[World.setCell]
        have H2:=dw hw2;have HR:=dw hrow;have RU:=dw nt;have WU:=dw hbw;clear hw2 hrow nt hbw
        go_wp2_with(first
         |(at_builtin;refine cS.zo rfl (.tmp 164) (.tmp 170) 98 rfl (w.heap.size+4) 122 i0 (.agg #[.int .i64 0,.int .i64 0,.int .i64 0,.int .i64 0]) 4 32 Lo.Jb hi hz0 hz1 hz2 rfl (by decide) v2 (eG b b.dz.length++fq b hand b.steps.length).length (iW (eG b b.dz.length++fq b hand b.steps.length)) rfl (HR.out.alloc _) ⟨wr.heap.size,0,none⟩ 1 1 [.int .i64 0,.int .i64 8000000,.int .i64 ((b.steps.length:Int)+1),.int .i64 (b.steps.length:Int)] rfl rfl ?c1 (by simp[Value.oneCell']) (by omega) (by unfold maxLen;omega) (by omega) (by simp;omega) (wr.heap.size+1) (by simp) (RU.out.alloc _) (by intro u hu;simp at hu;rcases hu with rfl|rfl|rfl|rfl<;>rfl) (by intro u hu;simp[Value.cells]at hu;subst hu;rfl) ?c2)
         |go_in)
        case c1=>
         have :=World.news_of_block (heap_alloc_new (wr.setCell ⟨w.heap.size+1,2,none⟩ (.int .i64 ((b.steps.length:Int)+1+1))) (.cells #[.int .i64 0,.int .i64 8000000,.int .i64 ((b.steps.length:Int)+1),.int .i64 (b.steps.length:Int)] 122));simpa using this
        intro g cap w3 hown1 hgrow hat hlt1 uQ;have hbk:=(hgrow.block (w.heap.size+1) (by simp;omega) (λe=>by have :=(HV.out _ e.symm).1;omega)).trans ((cZ _ _ _ (by omega)).trans H2.out);have c0:=(iG hbk).1;have f0:=(iG hbk).2.2.2.1;have hgs:=hgrow.size;have vG:=dw hbk;have HOW:=dw hown1;have Jf:=dw hgrow;have ao5:=dw uQ;clear hbk hown1 hgrow hat uQ w0 wf0;go_wp2;go_ret;have hwl:fA b hand=(eG b b.dz.length++fq b hand b.steps.length)++ [⟨0,8000000,b.steps.length+1,b.steps.length⟩]:=by unfold fA;rw[aj h0]
        have hnd:(dZ b hand:Int)=(b.steps.length:Int)+1+1:=by unfold dZ;rw[aj h0];simp;omega
        have vg:=(fQ.step (g:=g) (cap:=cap) (m:=b.dz.length+2*b.steps.length+1) (ss:=eG b b.dz.length++fq b hand b.steps.length) (news:=[⟨0,8000000,b.steps.length+1,b.steps.length⟩]) vG.out (by simpa[iW,hln]using HOW.out) (by rw[hln];rfl) (by simpa[hln]using ao5.out) (by omega)).base (show w.heap.size<=w.heap.size+4 by omega);have hbe:=((((WU.out.alloc (by omega) _).grown Jf.out (by simp;omega) (λj hj=>by have :=(HV.out j hj).1;omega)).setCell (p:=⟨w.heap.size+1,0,none⟩) (aJ _) (.slice (some ⟨g,0,none⟩) (b.dz.length+2*b.steps.length+1) cap)).mono (show w.heap.size<=w.heap.size+1 by omega));rw[<-hwl, <-hnd]at vg;refine⟨w.heap.size+1,.slice (some ⟨g,0,none⟩) (b.dz.length+2*b.steps.length+1) cap,rfl,by omega,by simp[World.setCell]at hgs⊢;omega,?_,?_⟩
        .exact vg
        .exact vR.out.trans hbe
       .have hd0:decide (0<=hand)=false:=by simpa using h0
        clear v0 v1c v2c eh vf1 vf2;go_wp2;go_ret;have hwl:fA b hand=eG b b.dz.length++fq b hand b.steps.length:=by unfold fA;rw[aa (by omega),List.append_nil]
        have hnd:(dZ b hand:Int)=(b.steps.length:Int)+1:=by unfold dZ;rw[aa (by omega)];simp
        exact⟨w.heap.size+1,v2,rfl,by omega,by omega,by rw[hwl,hnd];exact HW.out.base (by omega),vR.out.trans (zQ.out.mono (by omega))⟩
end Go.Proofs
