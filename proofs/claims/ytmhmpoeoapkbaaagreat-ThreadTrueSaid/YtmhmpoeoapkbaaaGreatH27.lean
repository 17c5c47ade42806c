/- Part 27. -/
import Derived.Test.YtmhmpoeoapkbaaaGreatH22
import Derived.Test.YtmhmpoeoapkbaaaGreatH25
set_option maxRecDepth 100000
set_option maxHeartbeats 0
set_option linter.all false
namespace Go.Proofs
open Go Go.RowKit Go.Maps
section
def gB(b:dO)(i:Nat):List Int:=(b.steps.take i).flatMap dW.outs
def mM(b:dO)(i:Nat):List Int:=(b.steps.take i).flatMap dW.ins
theorem nJ(L:List (List Int))(p:Int):(L.flatten).contains p=L.any λl=>l.contains p:=by
 induction L with
 |nil=>rfl
 |cons l r ih=>simp only[List.flatten_cons,List.contains_append,List.any_cons,ih]
theorem zb(l r:List Int)(p:Int):(l++r).contains p=(l.contains p||r.contains p):=by simp
def mq(b:dO)(i:Nat)(s:dW):Int:=
 if kH s.hand 0 ((b.dJ.length:Int)-1)=false then 6 else
 if(oD b.dz.length (gB b i) s.ins (mM b i)).1≠0 then(oD b.dz.length (gB b i) s.ins (mM b i)).1 else
 if(iX b.dz.length s.outs (gB b i)).1≠0 then(iX b.dz.length s.outs (gB b i)).1 else
 if eT s.g0 s.g1 0 1000000=false then 1 else if eT s.l0 s.l1 0 1000000=false then 1 else 0
theorem Jq{w:World}{B bb off k:Nat}{l:List Int}(hc:∀i j,i<l.length->j<1->w.cell? ⟨bb,off+(i*1+j),none⟩=some (.int .i64 ((l[i]?).getD 0)))(hb:bb<B)(hk:k<=l.length):xJ w B (some ⟨bb,off,none⟩) (l.take k):= λhn=>⟨bb,off,rfl,hb, λi j hi hj=>by
 rw[List.length_take]at hi;rw[hc i j (by omega) hj];dsimp only;rw[List.getElem?_take,aj (by omega)]⟩
theorem iH{P:Program}{C:World->Prop}{id:Nat}{Q:Exit->Act->World->Prop}{a:Act}{w:World}{l:List Oper}(hm:P.follows .mixedOrders=true)(hB:Region.lexB .any l.toArray=true)(hC:C w.drew)
 (h:wpQuiet P l.toArray C (λa'=>∀w',C w'->Q .normal a' w') l a):(Code.region id l.toArray true).wp P Q a w:=
 wp_region_quiet (C:=C) hm hB hC (by simpa using h)
def GG(b:dO)(v:gJ):Prop:=∀i s,b.steps[i]?=some s->s.ins.length<=(v.sv i).c1∧s.outs.length<=(v.sv i).c2
variable [Lo.St]
attribute [local irreducible] wpQuiet
theorem Lo.Em{w:World}{B:Nat}{b:dO}{v:gJ}{x:Value}{i:Nat}(hx:x=dY b v)(hb:fC w B b v)(hB:B<=w.heap.size)(hg:b.small)(hbc:GG b v)(hi:i<b.steps.length):
 Calls Lo.prog 15 #[x,.int .i64 (i:Int)] w λe w'=>e=.returned (.int .i64 (mq b i b.steps[i]))∧Below w.heap.size w w':=by
 obtain⟨U,U2,U3,U4,U5,U6⟩:=Lo.facts;have C:=Lo.call Tryz.func17;have C2:=Lo.call Tryz.func16;have C3:=Lo.call Tryz.func44;have C4:=Lo.call Tryz.func45;have C5:=Lo.call Tryz.func18;subst hx;obtain⟨bb,off,e,hbb,hc⟩:=hb.steps (by omega);have hbi:=hb.ins i _ (aN hi);have Sy:=hb.outs i _ (aN hi);obtain⟨r0,r1,r2,r3,r4,r5,r6⟩:=sZ hc hi;have K6:=dw hb;clear hb hc;obtain⟨ah,ch,ap,cp,iT,cs,ac,cc,sv⟩:=v;simp only at e hbi Sy r0 r1 r2 r3 r4 r5 r6;subst e;have hbv:dY b ⟨ah,ch,ap,cp,some ⟨bb,off,none⟩,cs,ac,cc,sv⟩=Value.agg #[.slice ah b.dJ.length ch,.slice ap b.dz.length cp,.slice (some ⟨bb,off,none⟩) b.steps.length cs,.slice ac b.dA.length cc]:=rfl;obtain⟨hq1,hq2⟩:=hbc i _ (aN hi);simp only at hq1 hq2;clear hbc;have hli:=hg.ins _ (aX hi);have hlo:=hg.outs _ (aX hi);have hi':(i:Int)<(b.steps.length:Int):=by omega
 have past:∀o d,d<w.heap.size->∀x,w.cell? ⟨d,o,none⟩=some x->(w.alloc (.cells #[.slice ah b.dJ.length ch,.slice ap b.dz.length cp,.slice (some ⟨bb,off,none⟩) b.steps.length cs,.slice ac b.dA.length cc] 26)).cell? ⟨d,o,none⟩=some x:= λo d hd x h=>(dh _ _ _ (by show d<w.heap.size;exact hd)).trans h
 have q0:=past _ _ (by omega) _ r0;have q1:=past _ _ (by omega) _ r1;have q2:=past _ _ (by omega) _ r2;have q3:=past _ _ (by omega) _ r3;have q4:=past _ _ (by omega) _ r4;have q5:=past _ _ (by omega) _ r5;have q6:=past _ _ (by omega) _ r6;clear past r0 r1 r2 r3 r4 r5 r6;rw[hbv];have iy:=dw (aM hbv (aM hbi Sy));clear hbv hbi Sy;generalize b.steps[i]=s at *;go_enter Lo.get Tryz.func15,Tryz.ntmps15;go_wp2;obtain⟨Y,hY⟩:∃Y,((w.alloc (.cells #[.slice ah b.dJ.length ch,.slice ap b.dz.length cp,.slice (some ⟨bb,off,none⟩) b.steps.length cs,.slice ac b.dA.length cc] 26)).alloc (.cells #[.int .i64 s.hand,.slice (sv i).a1 s.ins.length (sv i).c1,.slice (sv i).a2 s.outs.length (sv i).c2,.int .i64 s.g0,.int .i64 s.g1,.int .i64 s.l0,.int .i64 s.l1] 50))=Y:=⟨_,rfl⟩;have bW:Below w.heap.size w Y:=hY ▸ ((di _ _).alloc (aJ _) _).alloc (by simp) _;have sY:Y.heap.size=w.heap.size+2:=by rw[<-hY];simp
 have g1:Y.heap[w.heap.size+1]?=some (.cells #[.int .i64 s.hand,.slice (sv i).a1 s.ins.length (sv i).c1,.slice (sv i).a2 s.outs.length (sv i).c2,.int .i64 s.g0,.int .i64 s.g1,.int .i64 s.l0,.int .i64 s.l1] 50):=by
  rw[<-hY];have :=cK (w.alloc (.cells #[.slice ah b.dJ.length ch,.slice ap b.dz.length cp,.slice (some ⟨bb,off,none⟩) b.steps.length cs,.slice ac b.dA.length cc] 26)) (.cells #[.int .i64 s.hand,.slice (sv i).a1 s.ins.length (sv i).c1,.slice (sv i).a2 s.outs.length (sv i).c2,.int .i64 s.g0,.int .i64 s.g1,.int .i64 s.l0,.int .i64 s.l1] 50)
  rwa [World.size_alloc]at this
 have g0:Y.heap[w.heap.size]?=some (.cells #[.slice ah b.dJ.length ch,.slice ap b.dz.length cp,.slice (some ⟨bb,off,none⟩) b.steps.length cs,.slice ac b.dA.length cc] 26):=by
  rw[<-hY,cZ _ _ _ (by simp)];exact cK _ _
 rw[hY];have G:=dw (aM bW (aM g0 g1));clear hY bW g0 g1 q0 q1 q2 q3 q4 q5 q6;have iw:wrap64 ((b.dJ.length:Int)-1)=(b.dJ.length:Int)-1:=by have :=hg.dJ;unfold wrap64;omega
 have iw2:wrap64 ((b.dz.length:Int)-1)=(b.dz.length:Int)-1:=by have :=hg.dz;unfold wrap64;omega
 rw[iw];refine(Lo.vF _ _ _ _).mono ?_
 rintro e w1⟨rfl,rfl⟩;cases hbt:kH s.hand 0 ((b.dJ.length:Int)-1)with
 |false=>
  have HX:=dw hbt;clear hbt;go_wp2;go_ret;exact⟨by unfold mq;rw[aj HX.out];rfl,G.out.1⟩
 |true=>
  have HX:=dw hbt;clear hbt;obtain⟨F1,hF1⟩:∃F1,oD b.dz.length (gB b i) s.ins (mM b i)=F1:=⟨_,rfl⟩;have ah8:F1.1≠0->mq b i s=F1.1:= λh=>by unfold mq;rw[aa (by rw[HX.out];simp),hF1,aj h]
  have HF:=dw (aM hF1 ah8);clear hF1 ah8;obtain⟨Cl,hCl⟩:∃Cl:World->Prop,∀W,Cl W↔Below Y.heap.size Y W:=⟨_, λ_=>Iff.rfl⟩;have jI:=dw hCl;clear hCl;generalize ha1:(sv i).a1=a1 at *;generalize ha2:(sv i).a2=a2 at *;generalize hc1:(sv i).c1=c1 at *;generalize hc2:(sv i).c2=c2 at *;clear ha1 ha2 hc1 hc2;have iw3:IntKind.i64.wrap ((b.dz.length:Int)-1)=(b.dz.length:Int)-1:=by have :=hg.dz;rw[cB];omega
  go_wp2
  go_loopw [6] (λix wr=>∃k:Nat,k<=s.ins.length∧ix=.int .i64 (k:Int)∧oD b.dz.length (gB b i) (s.ins.drop k) (mM b i++s.ins.take k)=F1∧Below Y.heap.size Y wr) (λix _=>s.ins.length-(intOf ix).toNat)
  case atStart=>exact⟨0,bg _,rfl,by rw[List.drop_zero,List.take_zero,List.append_nil];exact HF.out.1,di _ _⟩
  case round=>
   obtain⟨k,hk,rfl,hx,hb⟩:=hrel
   by_cases hlt:k<s.ins.length
   .have hlt':(k:Int)<(s.ins.length:Int):=by omega
    have hkc:k<=c1:=by omega
    obtain⟨ib,io,rfl,hib,hic⟩:=iy.out.2.1 (by omega);have r:=PT hic hlt;have ht:xJ w B (some ⟨ib,io,none⟩) (s.ins.take k):=Jq hic hib (by omega);have htl:k=(s.ins.take k).length:=by rw[List.length_take];omega
    rw[ET _ _ _ _ _ hlt]at hx;have htk:mM b i++s.ins.take (k+1)=mM b i++s.ins.take k++ [s.ins[k]]:=by rw[bu hlt,List.append_assoc]
    generalize s.ins[k]=p at r hx htk;rw[zb]at hx;have em:(gB b i).contains p=((b.steps.take i).map dW.outs).any λl=>l.contains p:=by unfold gB;rw[List.flatMap_def,nJ]
    have eu:(mM b i).contains p=((b.steps.take i).map dW.ins).any λl=>l.contains p:=by unfold mM;rw[List.flatMap_def,nJ]
    obtain⟨fm,hfm⟩:∃fm,gT p ((b.steps.take i).map dW.outs) 0=fm:=⟨_,rfl⟩;obtain⟨fu,hfu⟩:∃fu,gT p ((b.steps.take i).map dW.ins) 0=fu:=⟨_,rfl⟩;have hm:((gB b i).contains p=false->fm= -1)∧((gB b i).contains p=true->∃n:Nat,fm=(n:Int)):=by rw[em, <-hfm];exact⟨kP p _ _,kQ p _ _⟩
    have hu:((mM b i).contains p=false->fu= -1)∧((mM b i).contains p=true->∃n:Nat,fu=(n:Int)):=by rw[eu, <-hfu];exact⟨kP p _ _,kQ p _ _⟩
    clear em eu;have HM:=dw hfm;have HU:=dw hfu;have HT:=dw (aM ht (aM htl htk))
    have hC:∀W,Below Y.heap.size Y W->W.cell? ⟨w.heap.size,0,none⟩=some (.slice ah b.dJ.length ch)∧W.cell? ⟨w.heap.size,1,none⟩=some (.slice ap b.dz.length cp)∧W.cell? ⟨w.heap.size,2,none⟩=some (.slice (some ⟨bb,off,none⟩) b.steps.length cs)∧W.cell? ⟨w.heap.size,3,none⟩=some (.slice ac b.dA.length cc)∧W.cell? ⟨w.heap.size+1,1,none⟩=some (.slice (some ⟨ib,io,none⟩) s.ins.length c1)∧W.cell? ⟨w.heap.size+1,2,none⟩=some (.slice a2 s.outs.length c2)∧W.cell? ⟨w.heap.size+1,3,none⟩=some (.int .i64 s.g0)∧W.cell? ⟨w.heap.size+1,4,none⟩=some (.int .i64 s.g1)∧W.cell? ⟨w.heap.size+1,5,none⟩=some (.int .i64 s.l0)∧W.cell? ⟨w.heap.size+1,6,none⟩=some (.int .i64 s.l1)∧W.cell? ⟨ib,io+k,none⟩=some (.int .i64 p):= λW hW=>by
     have p1:=(hW.block w.heap.size (by omega)).trans G.out.2.1;have p2:=(hW.block (w.heap.size+1) (by omega)).trans G.out.2.2;exact⟨cell_of p1 0,cell_of p1 1,cell_of p1 2,cell_of p1 3,cell_of p2 1,cell_of p2 2,cell_of p2 3,cell_of p2 4,cell_of p2 5,cell_of p2 6,(dH (G.out.1.trans (hW.mono (by omega))) ib _ (by omega)).trans r⟩
    have HC:=dw hC;clear hC;clear hfm hfu hic r ht htl htk;obtain⟨f0,f1,f2,f3,f4,f5,f6,f7,f8,f9,f10⟩:=HC.out wr hb;go_wp2;refine iH (C:=Cl) Lo.mixed (by kernel_rfl) ((jI.out _).2 hb.drew) ?_
    repeat
     refine wpQuiet_step (λK hK=>?_);go_simp
     first
      |(apply Exists.intro;refine⟨λW hW=>?_,hK _ ?_⟩
        .obtain⟨f0,f1,f2,f3,f4,f5,f6,f7,f8,f9,f10⟩:=HC.out W ((jI.out W).1 hW)
         first
          |rfl
          |(go_simp;rfl)
          |(go_simp;go_at_call 17;refine(Lo.vF _ _ _ _).mono ?_;rintro e w9⟨rfl,rfl⟩;exact⟨rfl,hW⟩)
        clear hK K)
      |(refine hK _ ?_;clear hK K)
    refine wpQuiet_nil ?_
    clear hb;intro z1 hb;replace hb:=(jI.out _).1 hb;obtain⟨f0,f1,f2,f3,f4,f5,f6,f7,f8,f9,f10⟩:=HC.out z1 hb;cases hbp:kH p 0 ((b.dz.length:Int)-1)with
    |false=>
     rw[aj hbp]at hx;have HQ:=dw hx;clear hbp hx hm hu;go_wp2;go_ret;exact⟨by rw[HF.out.2 (by rw[<-HQ.out];simp), <-HQ.out];rfl,G.out.1.trans (hb.mono (by omega))⟩
    |true=>
     rw[aa (by rw[hbp];simp)]at hx;clear hbp;go_wp2;refine iH (C:=Cl) Lo.mixed (by kernel_rfl) ((jI.out _).2 hb.drew) ?_
     repeat
      refine wpQuiet_step (λK hK=>?_);go_simp
      first
       |(apply Exists.intro;refine⟨λW hW=>?_,hK _ ?_⟩
         .obtain⟨f0,f1,f2,f3,f4,f5,f6,f7,f8,f9,f10⟩:=HC.out W ((jI.out W).1 hW)
          first
           |rfl
           |(go_simp;rfl)
           |(go_simp;go_at_call 16;refine(Lo.rU (n:=i) iy.out.1.symm (K6.out.keep λd o h=>dH (G.out.1.trans (((jI.out W).1 hW).mono (by omega))) d o (by omega)) (by have :=((jI.out W).1 hW).size;omega) hg (by omega)).mono ?_;rintro e w9⟨rfl,h9⟩;rw[HM.out];exact⟨rfl,(jI.out _).2 (((jI.out W).1 hW).trans (h9.mono ((jI.out W).1 hW).size))⟩)
         clear hK K)
       |(refine hK _ ?_;clear hK K)
     refine wpQuiet_nil ?_
     clear hb;intro z2 hb;replace hb:=(jI.out _).1 hb;obtain⟨f0,f1,f2,f3,f4,f5,f6,f7,f8,f9,f10⟩:=HC.out z2 hb;cases hmp:(gB b i).contains p with
     |false=>
      rw[aj hmp]at hx;obtain rfl:=hm.1 hmp;have HQ:=dw hx;clear hx hm hu hmp;go_wp2;go_ret;exact⟨by rw[HF.out.2 (by rw[<-HQ.out];simp), <-HQ.out];rfl,G.out.1.trans (hb.mono (by omega))⟩
     |true=>
      rw[aa (by rw[hmp];simp)]at hx;obtain⟨nm,rfl⟩:=hm.2 hmp;have hfe:decide ((nm:Int)<0)=false:=decide_eq_false (Int.not_lt.2 (Int.natCast_nonneg nm));have au7:¬(nm:Int)<0:=Int.not_lt.2 (Int.natCast_nonneg nm);clear hm hmp;cases hup:(mM b i).contains p with
      |true=>
       rw[hup,Bool.true_or,aj rfl]at hx;obtain⟨nu,rfl⟩:=hu.2 hup;have Sz:decide ((0:Int)<=(nu:Int))=true:=decide_eq_true (Int.natCast_nonneg nu);have HQ:=dw hx;clear hx hu hup;go_wp2;refine iH (C:=Cl) Lo.mixed (by kernel_rfl) ((jI.out _).2 hb.drew) ?_
       repeat
        refine wpQuiet_step (λK hK=>?_);go_simp
        first
         |(apply Exists.intro;refine⟨λW hW=>?_,hK _ ?_⟩
           .obtain⟨f0,f1,f2,f3,f4,f5,f6,f7,f8,f9,f10⟩:=HC.out W ((jI.out W).1 hW)
            first
             |rfl
             |(go_simp;rfl)
             |(go_simp;go_at_call 44;refine(Lo.Dj (n:=i) iy.out.1.symm (K6.out.keep λd o h=>dH (G.out.1.trans (((jI.out W).1 hW).mono (by omega))) d o (by omega)) (by have :=((jI.out W).1 hW).size;omega) hg (by omega)).mono ?_;rintro e w9⟨rfl,h9⟩;rw[HU.out];exact⟨rfl,(jI.out _).2 (((jI.out W).1 hW).trans (h9.mono ((jI.out W).1 hW).size))⟩)
             |(go_simp;go_at_call 45;refine(Lo.nH HT.out.2.1 (HT.out.1.keep λd o h=>dH (G.out.1.trans (((jI.out W).1 hW).mono (by omega))) d o (by omega)) (by rw[List.length_take];omega)).mono ?_;rintro e w9⟨rfl,rfl⟩;rw[HH.out];exact⟨rfl,hW⟩)
           clear hK K)
         |(refine hK _ ?_;clear hK K)
       refine wpQuiet_nil ?_
       clear hb;intro z3 hb;replace hb:=(jI.out _).1 hb;obtain⟨f0,f1,f2,f3,f4,f5,f6,f7,f8,f9,f10⟩:=HC.out z3 hb;go_wp2;go_ret;exact⟨by rw[HF.out.2 (by rw[<-HQ.out];simp), <-HQ.out];rfl,G.out.1.trans (hb.mono (by omega))⟩
      |false=>
       rw[hup,Bool.false_or]at hx;obtain rfl:=hu.1 hup;clear hu hup;cases Pb:(s.ins.take k).contains p with
       |true=>
        rw[Pb,aj rfl]at hx;have HQ:=dw hx;have HH:=dw Pb;clear hx Pb;go_wp2;refine iH (C:=Cl) Lo.mixed (by kernel_rfl) ((jI.out _).2 hb.drew) ?_
        repeat
         refine wpQuiet_step (λK hK=>?_);go_simp
         first
          |(apply Exists.intro;refine⟨λW hW=>?_,hK _ ?_⟩
            .obtain⟨f0,f1,f2,f3,f4,f5,f6,f7,f8,f9,f10⟩:=HC.out W ((jI.out W).1 hW)
             first
              |rfl
              |(go_simp;rfl)
              |(go_simp;go_at_call 44;refine(Lo.Dj (n:=i) iy.out.1.symm (K6.out.keep λd o h=>dH (G.out.1.trans (((jI.out W).1 hW).mono (by omega))) d o (by omega)) (by have :=((jI.out W).1 hW).size;omega) hg (by omega)).mono ?_;rintro e w9⟨rfl,h9⟩;rw[HU.out];exact⟨rfl,(jI.out _).2 (((jI.out W).1 hW).trans (h9.mono ((jI.out W).1 hW).size))⟩)
              |(go_simp;go_at_call 45;refine(Lo.nH HT.out.2.1 (HT.out.1.keep λd o h=>dH (G.out.1.trans (((jI.out W).1 hW).mono (by omega))) d o (by omega)) (by rw[List.length_take];omega)).mono ?_;rintro e w9⟨rfl,rfl⟩;rw[HH.out];exact⟨rfl,hW⟩)
            clear hK K)
          |(refine hK _ ?_;clear hK K)
        refine wpQuiet_nil ?_
        clear hb;intro z3 hb;replace hb:=(jI.out _).1 hb;obtain⟨f0,f1,f2,f3,f4,f5,f6,f7,f8,f9,f10⟩:=HC.out z3 hb;go_wp2;go_ret;exact⟨by rw[HF.out.2 (by rw[<-HQ.out];simp), <-HQ.out];rfl,G.out.1.trans (hb.mono (by omega))⟩
       |false=>
        rw[Pb,aa (by simp)]at hx;have HQ:=dw hx;have HH:=dw Pb;clear hx Pb;go_wp2;refine iH (C:=Cl) Lo.mixed (by kernel_rfl) ((jI.out _).2 hb.drew) ?_
        repeat
         refine wpQuiet_step (λK hK=>?_);go_simp
         first
          |(apply Exists.intro;refine⟨λW hW=>?_,hK _ ?_⟩
            .obtain⟨f0,f1,f2,f3,f4,f5,f6,f7,f8,f9,f10⟩:=HC.out W ((jI.out W).1 hW)
             first
              |rfl
              |(go_simp;rfl)
              |(go_simp;go_at_call 44;refine(Lo.Dj (n:=i) iy.out.1.symm (K6.out.keep λd o h=>dH (G.out.1.trans (((jI.out W).1 hW).mono (by omega))) d o (by omega)) (by have :=((jI.out W).1 hW).size;omega) hg (by omega)).mono ?_;rintro e w9⟨rfl,h9⟩;rw[HU.out];exact⟨rfl,(jI.out _).2 (((jI.out W).1 hW).trans (h9.mono ((jI.out W).1 hW).size))⟩)
              |(go_simp;go_at_call 45;refine(Lo.nH HT.out.2.1 (HT.out.1.keep λd o h=>dH (G.out.1.trans (((jI.out W).1 hW).mono (by omega))) d o (by omega)) (by rw[List.length_take];omega)).mono ?_;rintro e w9⟨rfl,rfl⟩;rw[HH.out];exact⟨rfl,hW⟩)
            clear hK K)
          |(refine hK _ ?_;clear hK K)
        refine wpQuiet_nil ?_
        clear hb;intro z3 hb;replace hb:=(jI.out _).1 hb;obtain⟨f0,f1,f2,f3,f4,f5,f6,f7,f8,f9,f10⟩:=HC.out z3 hb;go_wp2;go_roundw
        case rel=>exact⟨k+1,by omega,by go_num,by rw[HT.out.2.2];exact HQ.out,hb⟩
        case measure=>simp[intOf];omega
   .obtain rfl:k=s.ins.length:=by omega
    have Ui:F1.1=0:=by rw[<-hx,aF];rfl
    obtain⟨F2,hF2⟩:∃F2,iX b.dz.length s.outs (gB b i)=F2:=⟨_,rfl⟩;have ah9:F2.1≠0->mq b i s=F2.1:= λh=>by unfold mq;rw[aa (by rw[HX.out];simp),HF.out.1,aa (by rw[Ui];simp),hF2,aj h]
    have ai0:F2.1=0->mq b i s=if eT s.g0 s.g1 0 1000000=false then 1 else if eT s.l0 s.l1 0 1000000=false then 1 else 0:= λh=>by unfold mq;rw[aa (by rw[HX.out];simp),HF.out.1,aa (by rw[Ui];simp),hF2,aa (by rw[h];simp)]
    have HF:=dw (aM hF2 (aM ah9 ai0));clear hF2 ah9 ai0 Ui hx
    have hC:∀W,Below Y.heap.size Y W->W.cell? ⟨w.heap.size,0,none⟩=some (.slice ah b.dJ.length ch)∧W.cell? ⟨w.heap.size,1,none⟩=some (.slice ap b.dz.length cp)∧W.cell? ⟨w.heap.size,2,none⟩=some (.slice (some ⟨bb,off,none⟩) b.steps.length cs)∧W.cell? ⟨w.heap.size,3,none⟩=some (.slice ac b.dA.length cc)∧W.cell? ⟨w.heap.size+1,1,none⟩=some (.slice a1 s.ins.length c1)∧W.cell? ⟨w.heap.size+1,2,none⟩=some (.slice a2 s.outs.length c2)∧W.cell? ⟨w.heap.size+1,3,none⟩=some (.int .i64 s.g0)∧W.cell? ⟨w.heap.size+1,4,none⟩=some (.int .i64 s.g1)∧W.cell? ⟨w.heap.size+1,5,none⟩=some (.int .i64 s.l0)∧W.cell? ⟨w.heap.size+1,6,none⟩=some (.int .i64 s.l1):= λW hW=>by
     have p1:=(hW.block w.heap.size (by omega)).trans G.out.2.1;have p2:=(hW.block (w.heap.size+1) (by omega)).trans G.out.2.2;exact⟨cell_of p1 0,cell_of p1 1,cell_of p1 2,cell_of p1 3,cell_of p2 1,cell_of p2 2,cell_of p2 3,cell_of p2 4,cell_of p2 5,cell_of p2 6⟩
    have HC:=dw hC;clear hC;obtain⟨f0,f1,f2,f3,f4,f5,f6,f7,f8,f9⟩:=HC.out wr hb;go_wp2
    go_loopw [7] (λix wx=>∃k:Nat,k<=s.outs.length∧ix=.int .i64 (k:Int)∧iX b.dz.length (s.outs.drop k) (gB b i++s.outs.take k)=F2∧Below Y.heap.size Y wx) (λix _=>s.outs.length-(intOf ix).toNat)
    case atStart=>exact⟨0,bg _,rfl,by rw[List.drop_zero,List.take_zero,List.append_nil];exact HF.out.1,hb⟩
    case round=>
     clear hb f0 f1 f2 f3 f4 f5 f6 f7 f8 f9;obtain⟨k,hk,rfl,hx,hb⟩:=hrel
     by_cases hlt:k<s.outs.length
     .have hlt':(k:Int)<(s.outs.length:Int):=by omega
      have hkc:k<=c2:=by omega
      obtain⟨ib,io,rfl,hib,hic⟩:=iy.out.2.2 (by omega);have r:=PT hic hlt;have ht:xJ w B (some ⟨ib,io,none⟩) (s.outs.take k):=Jq hic hib (by omega);have htl:k=(s.outs.take k).length:=by rw[List.length_take];omega
      rw[Db _ _ _ _ hlt]at hx;have htk:gB b i++s.outs.take (k+1)=gB b i++s.outs.take k++ [s.outs[k]]:=by rw[bu hlt,List.append_assoc]
      generalize s.outs[k]=p at r hx htk;rw[zb]at hx;have em:(gB b i).contains p=((b.steps.take i).map dW.outs).any λl=>l.contains p:=by unfold gB;rw[List.flatMap_def,nJ]
      obtain⟨fm,hfm⟩:∃fm,gT p ((b.steps.take i).map dW.outs) 0=fm:=⟨_,rfl⟩;have hm:((gB b i).contains p=false->fm= -1)∧((gB b i).contains p=true->∃n:Nat,fm=(n:Int)):=by rw[em, <-hfm];exact⟨kP p _ _,kQ p _ _⟩
      clear em HC;have HM:=dw hfm;have HT:=dw (aM ht (aM htl htk))
      have hC:∀W,Below Y.heap.size Y W->W.cell? ⟨w.heap.size,0,none⟩=some (.slice ah b.dJ.length ch)∧W.cell? ⟨w.heap.size,1,none⟩=some (.slice ap b.dz.length cp)∧W.cell? ⟨w.heap.size,2,none⟩=some (.slice (some ⟨bb,off,none⟩) b.steps.length cs)∧W.cell? ⟨w.heap.size,3,none⟩=some (.slice ac b.dA.length cc)∧W.cell? ⟨w.heap.size+1,1,none⟩=some (.slice a1 s.ins.length c1)∧W.cell? ⟨w.heap.size+1,2,none⟩=some (.slice (some ⟨ib,io,none⟩) s.outs.length c2)∧W.cell? ⟨w.heap.size+1,3,none⟩=some (.int .i64 s.g0)∧W.cell? ⟨w.heap.size+1,4,none⟩=some (.int .i64 s.g1)∧W.cell? ⟨w.heap.size+1,5,none⟩=some (.int .i64 s.l0)∧W.cell? ⟨w.heap.size+1,6,none⟩=some (.int .i64 s.l1)∧W.cell? ⟨ib,io+k,none⟩=some (.int .i64 p):= λW hW=>by
       have p1:=(hW.block w.heap.size (by omega)).trans G.out.2.1;have p2:=(hW.block (w.heap.size+1) (by omega)).trans G.out.2.2;exact⟨cell_of p1 0,cell_of p1 1,cell_of p1 2,cell_of p1 3,cell_of p2 1,cell_of p2 2,cell_of p2 3,cell_of p2 4,cell_of p2 5,cell_of p2 6,(dH (G.out.1.trans (hW.mono (by omega))) ib _ (by omega)).trans r⟩
      have HC:=dw hC;clear hC;clear hfm hic r ht htl htk;obtain⟨f0,f1,f2,f3,f4,f5,f6,f7,f8,f9,f10⟩:=HC.out wr hb;go_wp2;refine iH (C:=Cl) Lo.mixed (by kernel_rfl) ((jI.out _).2 hb.drew) ?_
      repeat
       refine wpQuiet_step (λK hK=>?_);go_simp
       first
        |(apply Exists.intro;refine⟨λW hW=>?_,hK _ ?_⟩
          .obtain⟨f0,f1,f2,f3,f4,f5,f6,f7,f8,f9,f10⟩:=HC.out W ((jI.out W).1 hW)
           first
            |rfl
            |(go_simp;rfl)
            |(go_simp;go_at_call 17;refine(Lo.vF _ _ _ _).mono ?_;rintro e w9⟨rfl,rfl⟩;exact⟨rfl,hW⟩)
          clear hK K)
        |(refine hK _ ?_;clear hK K)
      refine wpQuiet_nil ?_
      clear hb;intro z1 hb;replace hb:=(jI.out _).1 hb;obtain⟨f0,f1,f2,f3,f4,f5,f6,f7,f8,f9,f10⟩:=HC.out z1 hb;cases hbp:kH p 0 ((b.dz.length:Int)-1)with
      |false=>
       rw[aj hbp]at hx;have HQ:=dw hx;clear hbp hx hm;go_wp2;go_ret;exact⟨by rw[HF.out.2.1 (by rw[<-HQ.out];simp), <-HQ.out];rfl,G.out.1.trans (hb.mono (by omega))⟩
      |true=>
       rw[aa (by rw[hbp];simp)]at hx;clear hbp;cases hmp:(gB b i).contains p with
       |true=>
        rw[hmp,Bool.true_or,aj rfl]at hx;obtain⟨nm,rfl⟩:=hm.2 hmp;have hfe:decide ((0:Int)<=(nm:Int))=true:=decide_eq_true (Int.natCast_nonneg nm);have HQ:=dw hx;clear hm hmp hx;go_wp2;refine iH (C:=Cl) Lo.mixed (by kernel_rfl) ((jI.out _).2 hb.drew) ?_
        repeat
         refine wpQuiet_step (λK hK=>?_);go_simp
         first
          |(apply Exists.intro;refine⟨λW hW=>?_,hK _ ?_⟩
            .obtain⟨f0,f1,f2,f3,f4,f5,f6,f7,f8,f9,f10⟩:=HC.out W ((jI.out W).1 hW)
             first
              |rfl
              |(go_simp;rfl)
              |(go_simp;go_at_call 16;refine(Lo.rU (n:=i) iy.out.1.symm (K6.out.keep λd o h=>dH (G.out.1.trans (((jI.out W).1 hW).mono (by omega))) d o (by omega)) (by have :=((jI.out W).1 hW).size;omega) hg (by omega)).mono ?_;rintro e w9⟨rfl,h9⟩;rw[HM.out];exact⟨rfl,(jI.out _).2 (((jI.out W).1 hW).trans (h9.mono ((jI.out W).1 hW).size))⟩)
              |(go_simp;go_at_call 45;refine(Lo.nH HT.out.2.1 (HT.out.1.keep λd o h=>dH (G.out.1.trans (((jI.out W).1 hW).mono (by omega))) d o (by omega)) (by rw[List.length_take];omega)).mono ?_;rintro e w9⟨rfl,rfl⟩;rw[HH.out];exact⟨rfl,hW⟩)
            clear hK K)
          |(refine hK _ ?_;clear hK K)
        refine wpQuiet_nil ?_
        clear hb;intro z2 hb;replace hb:=(jI.out _).1 hb;obtain⟨f0,f1,f2,f3,f4,f5,f6,f7,f8,f9,f10⟩:=HC.out z2 hb;go_wp2;go_ret;exact⟨by rw[HF.out.2.1 (by rw[<-HQ.out];simp), <-HQ.out];rfl,G.out.1.trans (hb.mono (by omega))⟩
       |false=>
        rw[hmp,Bool.false_or]at hx;obtain rfl:=hm.1 hmp;clear hm hmp;cases Pb:(s.outs.take k).contains p with
        |true=>
         rw[Pb,aj rfl]at hx;have HQ:=dw hx;have HH:=dw Pb;clear hx Pb;go_wp2;refine iH (C:=Cl) Lo.mixed (by kernel_rfl) ((jI.out _).2 hb.drew) ?_
         repeat
          refine wpQuiet_step (λK hK=>?_);go_simp
          first
           |(apply Exists.intro;refine⟨λW hW=>?_,hK _ ?_⟩
             .obtain⟨f0,f1,f2,f3,f4,f5,f6,f7,f8,f9,f10⟩:=HC.out W ((jI.out W).1 hW)
              first
               |rfl
               |(go_simp;rfl)
               |(go_simp;go_at_call 16;refine(Lo.rU (n:=i) iy.out.1.symm (K6.out.keep λd o h=>dH (G.out.1.trans (((jI.out W).1 hW).mono (by omega))) d o (by omega)) (by have :=((jI.out W).1 hW).size;omega) hg (by omega)).mono ?_;rintro e w9⟨rfl,h9⟩;rw[HM.out];exact⟨rfl,(jI.out _).2 (((jI.out W).1 hW).trans (h9.mono ((jI.out W).1 hW).size))⟩)
               |(go_simp;go_at_call 45;refine(Lo.nH HT.out.2.1 (HT.out.1.keep λd o h=>dH (G.out.1.trans (((jI.out W).1 hW).mono (by omega))) d o (by omega)) (by rw[List.length_take];omega)).mono ?_;rintro e w9⟨rfl,rfl⟩;rw[HH.out];exact⟨rfl,hW⟩)
             clear hK K)
           |(refine hK _ ?_;clear hK K)
         refine wpQuiet_nil ?_
         clear hb;intro z2 hb;replace hb:=(jI.out _).1 hb;obtain⟨f0,f1,f2,f3,f4,f5,f6,f7,f8,f9,f10⟩:=HC.out z2 hb;go_wp2;go_ret;exact⟨by rw[HF.out.2.1 (by rw[<-HQ.out];simp), <-HQ.out];rfl,G.out.1.trans (hb.mono (by omega))⟩
        |false=>
         rw[Pb,aa (by simp)]at hx;have HQ:=dw hx;have HH:=dw Pb;clear hx Pb;go_wp2;refine iH (C:=Cl) Lo.mixed (by kernel_rfl) ((jI.out _).2 hb.drew) ?_
         repeat
          refine wpQuiet_step (λK hK=>?_);go_simp
          first
           |(apply Exists.intro;refine⟨λW hW=>?_,hK _ ?_⟩
             .obtain⟨f0,f1,f2,f3,f4,f5,f6,f7,f8,f9,f10⟩:=HC.out W ((jI.out W).1 hW)
              first
               |rfl
               |(go_simp;rfl)
               |(go_simp;go_at_call 16;refine(Lo.rU (n:=i) iy.out.1.symm (K6.out.keep λd o h=>dH (G.out.1.trans (((jI.out W).1 hW).mono (by omega))) d o (by omega)) (by have :=((jI.out W).1 hW).size;omega) hg (by omega)).mono ?_;rintro e w9⟨rfl,h9⟩;rw[HM.out];exact⟨rfl,(jI.out _).2 (((jI.out W).1 hW).trans (h9.mono ((jI.out W).1 hW).size))⟩)
               |(go_simp;go_at_call 45;refine(Lo.nH HT.out.2.1 (HT.out.1.keep λd o h=>dH (G.out.1.trans (((jI.out W).1 hW).mono (by omega))) d o (by omega)) (by rw[List.length_take];omega)).mono ?_;rintro e w9⟨rfl,rfl⟩;rw[HH.out];exact⟨rfl,hW⟩)
             clear hK K)
           |(refine hK _ ?_;clear hK K)
         refine wpQuiet_nil ?_
         clear hb;intro z2 hb;replace hb:=(jI.out _).1 hb;obtain⟨f0,f1,f2,f3,f4,f5,f6,f7,f8,f9,f10⟩:=HC.out z2 hb;go_wp2;go_roundw
         case rel=>exact⟨k+1,by omega,by go_num,by rw[HT.out.2.2];exact HQ.out,hb⟩
         case measure=>simp[intOf];omega
     .obtain rfl:k=s.outs.length:=by omega
      have Ui:F2.1=0:=by rw[<-hx,aF];rfl
      have HR:=dw (HF.out.2.2 Ui);clear hx Ui;obtain⟨f0,f1,f2,f3,f4,f5,f6,f7,f8,f9⟩:=HC.out wr hb;go_wp2;refine(Lo.GD _ _ _ _ _).mono ?_
      rintro e w8⟨rfl,h8⟩;replace hb:=hb.trans (h8.mono hb.size);clear h8 f0 f1 f2 f3 f4 f5 f6 f7 f8 f9;obtain⟨f0,f1,f2,f3,f4,f5,f6,f7,f8,f9⟩:=HC.out w8 hb;cases hg1:eT s.g0 s.g1 0 1000000 with
      |false=>
       rw[aj hg1]at HR;have HH:=dw hb;clear hb;go_wp2;go_ret;exact⟨by rw[HR.out];rfl,G.out.1.trans (HH.out.mono (by omega))⟩
      |true=>
       rw[aa (by rw[hg1];simp)]at HR;go_wp2;refine(Lo.GD _ _ _ _ _).mono ?_
       rintro e w9⟨rfl,h8⟩;replace hb:=hb.trans (h8.mono hb.size);have HH:=dw hb;clear h8 hb;cases hg2:eT s.l0 s.l1 0 1000000 with
       |false=>
        rw[aj hg2]at HR;go_wp2;go_ret;exact⟨by rw[HR.out];rfl,G.out.1.trans (HH.out.mono (by omega))⟩
       |true=>
        rw[aa (by rw[hg2];simp)]at HR;go_wp2;go_ret;exact⟨by rw[HR.out];rfl,G.out.1.trans (HH.out.mono (by omega))⟩
end
theorem Jr{np:Nat}{M:List Int}:∀{l U:List Int},(oD np M l U).1=0->(oD np M l U).2=U++l
 | [],U,_=>by simp[oD]
 |p::r,U,h=>by
  unfold oD at h⊢
  by_cases h1:kH p 0 ((np:Int)-1)=false
  .rw[aj h1]at h;cases h
  rw[aa h1]at h⊢
  by_cases h2:M.contains p=false
  .rw[aj h2]at h;cases h
  rw[aa h2]at h⊢
  by_cases h3:U.contains p=true
  .rw[aj h3]at h;cases h
  rw[aa h3]at h⊢;rw[Jr h,List.append_assoc];rfl
theorem zX{np:Nat}:∀{l M:List Int},(iX np l M).1=0->(iX np l M).2=M++l
 | [],M,_=>by simp[iX]
 |p::r,M,h=>by
  unfold iX at h⊢
  by_cases h1:kH p 0 ((np:Int)-1)=false
  .rw[aj h1]at h;cases h
  rw[aa h1]at h⊢
  by_cases h2:M.contains p=true
  .rw[aj h2]at h;cases h
  rw[aa h2]at h⊢;rw[zX h,List.append_assoc];rfl
theorem Dv(b:dO){i:Nat}(h:i<b.steps.length):gB b (i+1)=gB b i++b.steps[i].outs:=by
 unfold gB;rw[bu h,List.flatMap_append];simp
theorem Ll(b:dO){i:Nat}(h:i<b.steps.length):mM b (i+1)=mM b i++b.steps[i].ins:=by
 unfold mM;rw[bu h,List.flatMap_append];simp
def uZ(b:dO)(i:Nat):Int×List Int:=jr b.dJ.length b.dz.length (b.steps.drop i) (gB b i) (mM b i)
theorem Pd[Lo.St]{b:dO}{i:Nat}(h:i<b.steps.length)(hf:mq b i b.steps[i]≠0):(uZ b i).1=mq b i b.steps[i]:=by
 unfold uZ;rw[uR _ _ _ _ _ _ h];unfold mq at hf⊢
 by_cases h1:kH b.steps[i].hand 0 ((b.dJ.length:Int)-1)=false
 .rw[aj h1,aj h1]
 rw[aa h1]at hf⊢;rw[aa h1]
 by_cases h2:(oD b.dz.length (gB b i) b.steps[i].ins (mM b i)).1≠0
 .rw[aj h2,aj h2]
 rw[aa h2]at hf⊢;rw[aa h2]
 by_cases h3:(iX b.dz.length b.steps[i].outs (gB b i)).1≠0
 .rw[aj h3,aj h3]
 rw[aa h3]at hf⊢;rw[aa h3]
 by_cases h4:eT b.steps[i].g0 b.steps[i].g1 0 1000000=false
 .rw[aj h4,aj h4]
 rw[aa h4]at hf⊢;rw[aa h4]
 by_cases h5:eT b.steps[i].l0 b.steps[i].l1 0 1000000=false
 .rw[aj h5,aj h5]
 .rw[aa h5]at hf;exact absurd rfl hf
theorem Js[Lo.St]{b:dO}{i:Nat}(h:i<b.steps.length)(hf:mq b i b.steps[i]=0):uZ b i=uZ b (i+1)∧(iX b.dz.length b.steps[i].outs (gB b i)).1=0:=by
 unfold uZ;rw[uR _ _ _ _ _ _ h];unfold mq at hf
 by_cases h1:kH b.steps[i].hand 0 ((b.dJ.length:Int)-1)=false
 .rw[aj h1]at hf;cases hf
 rw[aa h1]at hf⊢
 by_cases h2:(oD b.dz.length (gB b i) b.steps[i].ins (mM b i)).1≠0
 .rw[aj h2]at hf;exact absurd hf h2
 rw[aa h2]at hf⊢
 by_cases h3:(iX b.dz.length b.steps[i].outs (gB b i)).1≠0
 .rw[aj h3]at hf;exact absurd hf h3
 rw[aa h3]at hf⊢
 by_cases h4:eT b.steps[i].g0 b.steps[i].g1 0 1000000=false
 .rw[aj h4]at hf;cases hf
 rw[aa h4]at hf⊢
 by_cases h5:eT b.steps[i].l0 b.steps[i].l1 0 1000000=false
 .rw[aj h5]at hf;cases hf
 rw[aa h5];have e2:=Classical.not_not.1 h2;have e3:=Classical.not_not.1 h3;rw[Jr e2,zX e3,Dv b h,Ll b h];exact⟨rfl,e3⟩
theorem E9(b:dO):uZ b b.steps.length=(0,gB b b.steps.length):=by unfold uZ;rw[aF];rfl
theorem Jt{l M:List Int}(hl:l.Nodup)(h:∀x∈l,x∈M):l.length<=M.length:=by
 induction l generalizing M with
 |nil=>exact bg _
 |cons a l ih=>
  have ha:=h a aP;rw[List.nodup_cons]at hl;have :=ih (M:=M.erase a) hl.2 λx hx=>(List.mem_erase_of_ne (by rintro rfl;exact hl.1 hx)).2 (h x (aQ _ hx))
  rw[List.length_erase_of_mem ha]at this;have :=List.length_pos_of_mem ha;rw[List.length_cons];omega
def YQ(n:Nat):List Int:=(List.range n).map Int.ofNat
theorem Pe(n:Nat):(YQ n).Nodup:=by
 unfold YQ;rw[List.nodup_iff_pairwise_ne,List.pairwise_map];refine List.Pairwise.imp (λ{a b}h e=>h ?_) (List.nodup_iff_pairwise_ne.1 List.nodup_range);exact Int.ofNat.inj e
theorem GH{n:Nat}{x:Int}:x∈YQ n↔0<=x∧x<(n:Int):=by
 unfold YQ;rw[List.mem_map];constructor
 .rintro⟨k,hk,rfl⟩;have :=List.mem_range.1 hk;exact⟨by simp,by simpa using this⟩
 .rintro⟨h1,h2⟩;exact⟨x.toNat,List.mem_range.2 (by omega),by simp;omega⟩
theorem SC{M:List Int}{n:Nat}(h:∀p:Nat,p<n->M.contains (p:Int)=true):n<=M.length:=by
 have :=Jt (Pe n) (M:=M) λx hx=>by
  obtain⟨h1,h2⟩:=GH.1 hx;have :=h x.toNat (by omega);rw[show((x.toNat:Nat):Int)=x by omega]at this;simpa using this
 simpa[YQ]using this
theorem Pf{M:List Int}{n p:Nat}(hM:M.Nodup)(hr:∀x∈M,0<=x∧x<(n:Int))(hp:p<n)(hc:M.contains (p:Int)=false):M.length<n:=by
 have hc':(p:Int) ∉ M:=by simpa using hc
 have :=Jt (M:=YQ n) (l:=(p:Int)::M) (List.nodup_cons.2 ⟨hc',hM⟩) λx hx=>by
  rcases bD.1 hx with rfl|hx
  .exact GH.2 ⟨by omega,by omega⟩
  .exact GH.2 (hr x hx)
 simp[YQ]at this;omega
section
variable [Lo.St]
def Ju(b:dO)(k:Nat):Prop:=∀j(h:j<b.steps.length),j<k->mq b j b.steps[j]=0
theorem Pg{b:dO}{k:Nat}(h:Ju b k)(hk:k<b.steps.length)(hf:mq b k b.steps[k]=0):Ju b (k+1):= λj hj hlt=>by
 by_cases e:j=k
 .subst e;exact hf
 .exact h j hj (by omega)
theorem tK{b:dO}:∀{k:Nat},Ju b k->k<=b.steps.length->uZ b 0=uZ b k
 |0,_,_=>rfl
 |k+1,h,hk=>by
  rw[tK (k:=k) (λj hj hlt=>h j hj (by omega)) (by omega)];exact(Js (by omega) (h k (by omega) (by omega))).1
theorem Dw{b:dO}:∀{k:Nat},Ju b k->k<=b.steps.length->(gB b k).Nodup∧∀x∈gB b k,0<=x∧x<(b.dz.length:Int)
 |0,_,_=>by unfold gB;simp
 |k+1,h,hk=>by
  obtain⟨h1,h2⟩:=Dw (k:=k) (λj hj hlt=>h j hj (by omega)) (by omega);have h3:=(Js (by omega) (h k (by omega) (by omega))).2;rw[Dv b (by omega)];refine⟨zX h3 ▸ uS h1 h3, λx hx=>?_⟩;rcases List.mem_append.1 hx with hx|hx
  .exact h2 x hx
  .have :=Gp h3 x hx;omega
theorem xA(b:dO):uZ b 0=jr b.dJ.length b.dz.length b.steps [] []:=by
 unfold uZ gB mM;simp
theorem Dx{b:dO}{k:Nat}(h:Ju b k)(hk:k<b.steps.length)(hf:mq b k b.steps[k]≠0)(h8:¬8<b.steps.length):fB b=mq b k b.steps[k]:=by
 have e:(jr b.dJ.length b.dz.length b.steps [] []).1=mq b k b.steps[k]:=by rw[<-xA,tK h (by omega),Pd hk hf]
 unfold fB;rw[aa h8,aj (by rw[e];exact hf),e]
theorem Bg{b:dO}(h:Ju b b.steps.length)(h8:¬8<b.steps.length){p:Nat}(hp:p<b.dz.length)(hc:(gB b b.steps.length).contains (p:Int)=false):fB b=6:=by
 have e:jr b.dJ.length b.dz.length b.steps [] []=(0,gB b b.steps.length):=by rw[<-xA,tK h (aJ _),E9]
 obtain⟨h1,h2⟩:=Dw h (aJ _);unfold fB;rw[aa h8,e,aa (by simp),aj (Pf h1 h2 hp hc)]
theorem Bh{b:dO}(h:Ju b b.steps.length)(h8:¬8<b.steps.length)(hc:∀p:Nat,p<b.dz.length->(gB b b.steps.length).contains (p:Int)=true):fB b=0:=by
 have e:jr b.dJ.length b.dz.length b.steps [] []=(0,gB b b.steps.length):=by rw[<-xA,tK h (aJ _),E9]
 unfold fB;rw[aa h8,e,aa (by simp),aa (by have :=SC hc;simp;omega)]
theorem SE{b:dO}(h:¬dP b.dJ 4=0):fG b=dP b.dJ 4:=by unfold fG;rw[aj h]
theorem SF{b:dO}(h:dP b.dJ 4=0)(h2:¬dP b.dz 12=0):fG b=dP b.dz 12:=by unfold fG;rw[aa (by rw[h];simp),aj h2]
theorem Dy{b:dO}(h:dP b.dJ 4=0)(h2:dP b.dz 12=0){x:Int}(h3:fB b=x)(hx:x≠0):fG b=x:=by unfold fG;rw[aa (by rw[h];simp),aa (by rw[h2];simp),h3,aj hx]
theorem SG{b:dO}(h:dP b.dJ 4=0)(h2:dP b.dz 12=0)(h3:fB b=0):fG b=if 10<b.dA.length then 2 else ku b.dz.length b.dA:=by unfold fG;rw[aa (by rw[h];simp),aa (by rw[h2];simp),h3,aa (by simp)]
attribute [local irreducible] wpQuiet
theorem Lo.YR{w:World}{B:Nat}{b:dO}{v:gJ}{x:Value}(hx:x=dY b v)(hb:fC w B b v)(hB:B<=w.heap.size)(hg:b.small)(hbc:GG b v):
 Calls Lo.prog 5 #[x] w λe w'=>e=.returned (.int .i64 (fG b))∧Below w.heap.size w w':=by
 obtain⟨U,U2,U3,U4,U5,U6⟩:=Lo.facts;have C:=Lo.call Tryz.func14;have C2:=Lo.call Tryz.func15;have C3:=Lo.call Tryz.func16;have C4:=Lo.call Tryz.func17;have C5:=Lo.call Tryz.func18;subst hx;have l1:=hg.dJ;have l2:=hg.dz;have l3:=hg.steps;have l4:=hg.dA;have hsc:=hb.dA;have K6:=dw (aM hb hbc);clear hb hbc;have hbv:dY b v=Value.agg #[.slice v.ah b.dJ.length v.ch,.slice v.ap b.dz.length v.cp,.slice v.iT b.steps.length v.cs,.slice v.ac b.dA.length v.cc]:=rfl;have iy:=dw hbv;rw[hbv];clear hbv;obtain⟨Y,hY⟩:∃Y,w.alloc (.cells #[.slice v.ah b.dJ.length v.ch,.slice v.ap b.dz.length v.cp,.slice v.iT b.steps.length v.cs,.slice v.ac b.dA.length v.cc] 26)=Y:=⟨_,rfl⟩;have bW:Below w.heap.size w Y:=hY ▸ (di _ _).alloc (aJ _) _;have sY:Y.heap.size=w.heap.size+1:=by rw[<-hY];simp
 have g0:Y.heap[w.heap.size]?=some (.cells #[.slice v.ah b.dJ.length v.ch,.slice v.ap b.dz.length v.cp,.slice v.iT b.steps.length v.cs,.slice v.ac b.dA.length v.cc] 26):=by rw[<-hY];exact cK _ _
 have hC:∀W,Below Y.heap.size Y W->W.cell? ⟨w.heap.size,0,none⟩=some (.slice v.ah b.dJ.length v.ch)∧W.cell? ⟨w.heap.size,1,none⟩=some (.slice v.ap b.dz.length v.cp)∧W.cell? ⟨w.heap.size,2,none⟩=some (.slice v.iT b.steps.length v.cs)∧W.cell? ⟨w.heap.size,3,none⟩=some (.slice v.ac b.dA.length v.cc):= λW hW=>by
  have p1:=(hW.block w.heap.size (by omega)).trans g0;exact⟨cell_of p1 0,cell_of p1 1,cell_of p1 2,cell_of p1 3⟩
 have hA:∀W,Below Y.heap.size Y W->fC W B b v:= λW hW=>K6.out.1.keep λd o h=>dH (bW.trans (hW.mono (by omega))) d o (by omega)
 have HC:=dw hC;have HA:=dw hA;have G:=dw bW;have HY:=dw hY;clear hC hA bW g0 hY;have k1:=K6.out.1.lh;have k2:=K6.out.1.lp;generalize ha1:v.ah=a1 at HC iy HY⊢;generalize ha2:v.ap=a2 at HC iy HY⊢;generalize ha3:v.iT=a3 at HC iy HY⊢;generalize ha4:v.ac=a4 at HC iy HY hsc⊢;generalize hc1:v.ch=c1 at HC iy HY k1⊢;generalize hc2:v.cp=c2 at HC iy HY k2⊢;generalize hc3:v.cs=c3 at HC iy HY⊢;generalize hc4:v.cc=c4 at HC iy HY⊢;have HV:=dw (aM ha1 ha2);clear ha1 ha2 ha3 ha4 hc1 hc2 hc3 hc4;go_enter Lo.get Tryz.func5,Tryz.ntmps5;go_wp2;have hy:=HY.out;rw[hy];clear hy HY;refine(Lo.Di (most:=4) (HV.out.1 ▸ (HA.out Y (di _ _)).dJ) l1 k1 (by omega) (by omega)).mono ?_
 rintro e w1⟨rfl,h1⟩;obtain⟨f0,f1,f2,f3⟩:=HC.out w1 h1;generalize hx1:dP b.dJ 4=x1
 by_cases z1:x1=0
 case neg=>
  have H1:=dw (aM h1 hx1);clear h1 hx1;go_wp2;go_ret;exact⟨by rw[SE (by rw[H1.out.2];exact z1),H1.out.2];rfl,G.out.trans (H1.out.1.mono (by omega))⟩
 subst z1;have H1:=dw hx1;clear hx1;go_wp2;refine(Lo.Di (most:=12) (HV.out.2 ▸ (HA.out w1 h1).dz) l2 k2 (by have :=h1.size;omega) (by omega)).mono ?_
 rintro e w2⟨rfl,h2⟩;replace h2:=h1.trans (h2.mono h1.size);clear h1 f0 f1 f2 f3;obtain⟨f0,f1,f2,f3⟩:=HC.out w2 h2;generalize hx2:dP b.dz 12=x2
 by_cases z2:x2=0
 case neg=>
  have H2:=dw (aM h2 hx2);clear h2 hx2;go_wp2;go_ret;exact⟨by rw[SF H1.out (by rw[H2.out.2];exact z2),H2.out.2];rfl,G.out.trans (H2.out.1.mono (by omega))⟩
 subst z2;have H2:=dw hx2;clear hx2
 by_cases h8:8<b.steps.length
 .have h8':(8:Int)<(b.steps.length:Int):=by omega
  have HQ:=dw h2;clear h2;go_wp2;go_ret;exact⟨by rw[Dy (x:=2) H1.out H2.out (by unfold fB;rw[aj h8]) (by decide)];rfl,G.out.trans (HQ.out.mono (by omega))⟩
 have h8':¬(8:Int)<(b.steps.length:Int):=by omega
 have HQ:=dw h2;clear h2;go_wp2;clear f0 f1 f2 f3
 go_loopw [5] (λix wr=>∃k:Nat,k<=b.steps.length∧ix=.int .i64 (k:Int)∧Hid (Ju b k)∧Below Y.heap.size Y wr) (λix _=>b.steps.length-(intOf ix).toNat)
 case atStart=>exact⟨0,bg _,rfl,dw (λj _ h=>absurd h (Nat.not_lt_zero _)),HQ.out⟩
 case round=>
  obtain⟨k,hk,rfl,hx,hb⟩:=hrel;obtain⟨f0,f1,f2,f3⟩:=HC.out wr hb
  by_cases hlt:k<b.steps.length
  .have hlt':(k:Int)<(b.steps.length:Int):=by omega
   go_wp2;refine(Lo.Em (i:=k) iy.out.symm (HA.out wr hb) (by have :=hb.size;omega) hg K6.out.2 hlt).mono ?_
   rintro e w3⟨rfl,h3⟩;replace h3:=hb.trans (h3.mono hb.size);clear hb f0 f1 f2 f3;obtain⟨f0,f1,f2,f3⟩:=HC.out w3 h3;generalize hx3:mq b k b.steps[k]=x3
   by_cases z3:x3=0
   .subst z3;have H3:=dw (aM h3 hx3);clear h3 hx3;go_wp2;go_roundw
    case rel=>exact⟨k+1,by omega,by go_num,dw (Pg hx.out hlt H3.out.2),H3.out.1⟩
    case measure=>simp[intOf];omega
   .have H3:=dw (aM h3 hx3);clear h3 hx3;go_wp2;go_ret;exact⟨by rw[Dy (x:=x3) H1.out H2.out (H3.out.2 ▸ Dx hx.out hlt (by rw[H3.out.2];exact z3) h8) z3];rfl,G.out.trans (H3.out.1.mono (by omega))⟩
  .obtain rfl:k=b.steps.length:=by omega
   have HO:=hx;clear hx hlt hk;go_wp2;clear HQ f0 f1 f2 f3;have HQ:=dw hb;clear hb;generalize wr=w4 at *
   go_loopw [7] (λix wr=>∃k:Nat,k<=b.dz.length∧ix=.int .i64 (k:Int)∧Hid (∀p:Nat,p<k->(gB b b.steps.length).contains (p:Int)=true)∧Below Y.heap.size Y wr) (λix _=>b.dz.length-(intOf ix).toNat)
   case atStart=>exact⟨0,bg _,rfl,dw (λj h=>absurd h (Nat.not_lt_zero _)),HQ.out⟩
   case round=>
    obtain⟨k,hk,rfl,hx,hb⟩:=hrel;obtain⟨f0,f1,f2,f3⟩:=HC.out wr hb
    by_cases hlt:k<b.dz.length
    .have hlt':(k:Int)<(b.dz.length:Int):=by omega
     go_wp2;refine(Lo.rU (n:=b.steps.length) (p:=(k:Int)) iy.out.symm (HA.out wr hb) (by have :=hb.size;omega) hg (aJ _)).mono ?_
     rintro e w3⟨rfl,h3⟩;replace h3:=hb.trans (h3.mono hb.size);clear hb f0 f1 f2 f3;obtain⟨f0,f1,f2,f3⟩:=HC.out w3 h3;have em:(gB b b.steps.length).contains (k:Int)=((b.steps.take b.steps.length).map dW.outs).any λl=>l.contains (k:Int):=by unfold gB;rw[List.flatMap_def,nJ]
     generalize hfm:gT (k:Int) ((b.steps.take b.steps.length).map dW.outs) 0=fm;cases hct:(gB b b.steps.length).contains (k:Int)with
     |false=>
      rw[kP _ _ _ (em ▸ hct)]at hfm;subst hfm;have H3:=dw (aM h3 hct);clear h3 hct em;go_wp2;go_ret;exact⟨by rw[Dy (x:=6) H1.out H2.out (Bg HO.out h8 hlt H3.out.2) (by decide)];rfl,G.out.trans (H3.out.1.mono (by omega))⟩
     |true=>
      obtain⟨n,hn⟩:=kQ _ _ 0 (em ▸ hct);obtain rfl:=hfm.symm.trans hn;have hnn:¬(n:Int)<0:=by omega
      have H3:=dw (aM h3 hct);clear h3 hct em hn hfm;go_wp2;go_roundw
      case rel=>exact⟨k+1,by omega,by go_num,dw (λp hp=>if e:p=k then e ▸ H3.out.2 else hx.out p (by omega)),H3.out.1⟩
      case measure=>simp[intOf];omega
    .obtain rfl:k=b.dz.length:=by omega
     have HG:=dw (SG H1.out H2.out (Bh HO.out h8 hx.out));clear hx hlt hk HO HQ
     by_cases h10:10<b.dA.length
     .have ap3:(10:Int)<(b.dA.length:Int):=by omega
      have HQ:=dw hb;clear hb;go_wp2;go_ret;exact⟨by rw[HG.out,aj h10];rfl,G.out.trans (HQ.out.mono (by omega))⟩
     have ap3:¬(10:Int)<(b.dA.length:Int):=by omega
     go_wp2;clear f0 f1 f2 f3;have HQ:=dw hb;clear hb;generalize wr=w5 at *;obtain⟨Cl,hCl⟩:∃Cl:World->Prop,∀W,Cl W↔Below Y.heap.size Y W:=⟨_, λ_=>Iff.rfl⟩;have jI:=dw hCl;clear hCl;have iw3:IntKind.i64.wrap ((b.dz.length:Int)-1)=(b.dz.length:Int)-1:=by rw[cB];omega
     go_loopw [8] (λix wr=>∃k:Nat,k<=b.dA.length∧ix=.int .i64 (k:Int)∧Hid (ku b.dz.length (b.dA.drop k)=ku b.dz.length b.dA)∧Below Y.heap.size Y wr) (λix _=>b.dA.length-(intOf ix).toNat)
     case atStart=>exact⟨0,bg _,rfl,dw rfl,HQ.out⟩
     case round=>
      obtain⟨k,hk,rfl,hx,hb⟩:=hrel;obtain⟨f0,f1,f2,f3⟩:=HC.out wr hb
      by_cases hlt:k<b.dA.length
      .have hlt':(k:Int)<(b.dA.length:Int):=by omega
       obtain⟨sb,so,rfl,hsb,hs⟩:=hsc (by omega);obtain⟨r0,r1,r2⟩:=CU hs hlt;have hd:=yX b.dz.length b.dA k hlt;rw[hx.out]at hd;generalize b.dA[k]=sc at r0 r1 r2 hd
       have hS:∀W,Below Y.heap.size Y W->W.cell? ⟨w.heap.size,1,none⟩=some (.slice a2 b.dz.length c2)∧W.cell? ⟨w.heap.size,3,none⟩=some (.slice (some ⟨sb,so,none⟩) b.dA.length c4)∧W.cell? ⟨sb,so+k*3,none⟩=some (.int .i64 sc.pile)∧W.cell? ⟨sb,so+k*3+1,none⟩=some (.int .i64 sc.lo)∧W.cell? ⟨sb,so+k*3+2,none⟩=some (.int .i64 sc.hi):= λW hW=>by
        have h:=G.out.trans (hW.mono (by omega));exact⟨(HC.out W hW).2.1,(HC.out W hW).2.2.2,(dH h _ _ (by omega)).trans r0,(dH h _ _ (by omega)).trans r1,(dH h _ _ (by omega)).trans r2⟩
       have HS:=dw hS;have HD:=dw hd;clear hS hd hs hx r0 r1 r2 f0 f1 f2 f3;obtain⟨f1,f3,f4,f5,f6⟩:=HS.out wr hb;go_wp2;refine iH (C:=Cl) Lo.mixed (by kernel_rfl) ((jI.out _).2 hb.drew) ?_
       repeat
        refine wpQuiet_step (λK hK=>?_);go_simp
        first
         |(apply Exists.intro;refine⟨λW hW=>?_,hK _ ?_⟩
           .obtain⟨f1,f3,f4,f5,f6⟩:=HS.out W ((jI.out W).1 hW)
            first
             |rfl
             |(go_simp;rfl)
             |(go_simp;go_at_call 17;refine(Lo.vF _ _ _ _).mono ?_;rintro e w9⟨rfl,rfl⟩;exact⟨rfl,hW⟩)
           clear hK K)
         |(refine hK _ ?_;clear hK K)
       refine wpQuiet_nil ?_
       clear hb f1 f3 f4 f5 f6;intro z1 hb;replace hb:=(jI.out _).1 hb;obtain⟨f1,f3,f4,f5,f6⟩:=HS.out z1 hb;cases hbt:kH sc.pile 0 ((b.dz.length:Int)-1)with
       |false=>
        have HP:=dw hbt;clear hbt;go_wp2;go_ret;exact⟨by rw[HG.out,aa h10,HD.out,aj HP.out];rfl,G.out.trans (hb.mono (by omega))⟩
       |true=>
        have HP:=dw hbt;clear hbt;go_wp2;refine(Lo.GD _ _ _ _ _).mono ?_
        rintro e w8⟨rfl,h8z⟩;replace h8z:=hb.trans (h8z.mono hb.size);cases hin:eT sc.lo sc.hi 0 1000000 with
        |false=>
         have HI:=dw (aM hin h8z);clear hin h8z;go_wp2;go_ret;exact⟨by rw[HG.out,aa h10,HD.out,aa (by rw[HP.out];simp),aj HI.out.1];rfl,G.out.trans (HI.out.2.mono (by omega))⟩
        |true=>
         have HI:=dw (aM hin h8z);clear hin h8z;go_wp2;go_roundw
         case rel=>exact⟨k+1,by omega,by go_num,dw (by rw[HD.out,aa (by rw[HP.out];simp),aa (by rw[HI.out.1];simp)]),HI.out.2⟩
         case measure=>simp[intOf];omega
      .obtain rfl:k=b.dA.length:=by omega
       have hz:ku b.dz.length b.dA=0:=by rw[<-hx.out,aF];rfl
       have HZ:=dw (aM hz hb);clear hz hx hb;go_wp2;go_ret;exact⟨by rw[HG.out,aa h10,HZ.out.1];rfl,G.out.trans (HZ.out.2.mono (by omega))⟩
end
section
def mO(l:List ByteArray):Bool:=l.any λs=>decide (100<s.size)
def ve(l:List dW):Bool:=l.any λs=>decide (40<s.ins.length)||decide (40<s.outs.length)
def Dz(b:dO):Bool:=decide (40<b.dJ.length)||decide (40<b.dz.length)||decide (40<b.steps.length)||decide (40<b.dA.length)||mO b.dJ||mO b.dz||ve b.steps
theorem Vz{b:dO}(h:Dz b=false):b.small:=by
 unfold Dz at h;simp only[Bool.or_eq_false_iff,decide_eq_false_iff_not]at h;obtain⟨⟨⟨⟨⟨⟨h1,h2⟩,h3⟩,h4⟩, -⟩, -⟩,h5⟩:=h;refine⟨by omega,by omega,by omega,by omega, λs hs=>?_, λs hs=>?_⟩
 .have :=List.any_eq_false.1 h5 s hs;simp at this;omega
 .have :=List.any_eq_false.1 h5 s hs;simp at this;omega
theorem DC{l:List ByteArray}{k:Nat}(h:k<l.length):mO (l.drop k)=(decide (100<l[k].size)||mO (l.drop (k+1))):=by rw[aV h];rfl
theorem Lm{l:List dW}{k:Nat}(h:k<l.length):ve (l.drop k)=((decide (40<l[k].ins.length)||decide (40<l[k].outs.length))||ve (l.drop (k+1))):=by rw[aV h];rfl
variable [Lo.St]
theorem Lo.aa0{w:World}{B:Nat}{b:dO}{v:gJ}{x:Value}(hx:x=dY b v)(hb:fC w B b v)(hB:B<=w.heap.size):
 Calls Lo.prog 4 #[x] w λe w'=>e=.returned (.bool (Dz b))∧Below w.heap.size w w':=by
 obtain⟨U,U2,U3,U4,U5,U6⟩:=Lo.facts;subst hx;have hbv:dY b v=Value.agg #[.slice v.ah b.dJ.length v.ch,.slice v.ap b.dz.length v.cp,.slice v.iT b.steps.length v.cs,.slice v.ac b.dA.length v.cc]:=rfl;rw[hbv];obtain⟨Y,hY⟩:∃Y,w.alloc (.cells #[.slice v.ah b.dJ.length v.ch,.slice v.ap b.dz.length v.cp,.slice v.iT b.steps.length v.cs,.slice v.ac b.dA.length v.cc] 26)=Y:=⟨_,rfl⟩;have bW:Below w.heap.size w Y:=hY ▸ (di _ _).alloc (aJ _) _;have hbY:fC Y B b v:=hb.keep λd o h=>dH bW d o (by omega)
 have g0:Y.heap[w.heap.size]?=some (.cells #[.slice v.ah b.dJ.length v.ch,.slice v.ap b.dz.length v.cp,.slice v.iT b.steps.length v.cs,.slice v.ac b.dA.length v.cc] 26):=by rw[<-hY];exact cK _ _
 have f0:=cell_of g0 0 (v:=.slice v.ah b.dJ.length v.ch);have f1:=cell_of g0 1 (v:=.slice v.ap b.dz.length v.cp);have f2:=cell_of g0 2 (v:=.slice v.iT b.steps.length v.cs);have f3:=cell_of g0 3 (v:=.slice v.ac b.dA.length v.cc);have h1:=hbY.dJ;have h2:=hbY.dz;have h3:=hbY.steps;obtain⟨R,hR⟩:∃R,Dz b=R:=⟨_,rfl⟩;rw[hR];unfold Dz at hR;have HR:=dw hR;have G:=dw (aM bW (aM hY hbv));clear hb hbY hbv g0 hR bW hY;generalize v.ah=a1 at *;generalize v.ap=a2 at *;generalize v.iT=a3 at *;generalize v.ac=a4 at *;generalize v.ch=c1 at *;generalize v.cp=c2 at *;generalize v.cs=c3 at *;generalize v.cc=c4 at *;go_enter Lo.get Tryz.func4,Tryz.ntmps4
 by_cases q1:40<b.dJ.length
 .have d1:(40:Int)<(b.dJ.length:Int):=by omega
  have q1':=decide_eq_true q1;go_wp2;go_ret;exact⟨by rw[<-HR.out];rw[q1'];simp,by rw[G.out.2.1];exact G.out.1⟩
 have d1:¬(40:Int)<(b.dJ.length:Int):=by omega
 have e1:=decide_eq_false q1
 by_cases q2:40<b.dz.length
 .have d2:(40:Int)<(b.dz.length:Int):=by omega
  have q2':=decide_eq_true q2;go_wp2;go_ret;exact⟨by rw[<-HR.out];rw[q2'];simp,by rw[G.out.2.1];exact G.out.1⟩
 have d2:¬(40:Int)<(b.dz.length:Int):=by omega
 have e2:=decide_eq_false q2
 by_cases q3:40<b.steps.length
 .have d3:(40:Int)<(b.steps.length:Int):=by omega
  have q3':=decide_eq_true q3;go_wp2;go_ret;exact⟨by rw[<-HR.out];rw[q3'];simp,by rw[G.out.2.1];exact G.out.1⟩
 have d3:¬(40:Int)<(b.steps.length:Int):=by omega
 have e3:=decide_eq_false q3
 by_cases q4:40<b.dA.length
 .have d4:(40:Int)<(b.dA.length:Int):=by omega
  have q4':=decide_eq_true q4;go_wp2;go_ret;exact⟨by rw[<-HR.out];rw[q4'];simp,by rw[G.out.2.1];exact G.out.1⟩
 have d4:¬(40:Int)<(b.dA.length:Int):=by omega
 have e4:=decide_eq_false q4;have HR2:Hid ((mO b.dJ||mO b.dz||ve b.steps)=R):=dw (by rw[<-HR.out,e1,e2,e3,e4];simp);clear HR e1 e2 e3 e4;go_wp2;rw[G.out.2.1]
 go_loopw [3] (λi wr=>∃k:Nat,k<=b.dJ.length∧i=.int .i64 (k:Int)∧Hid (mO (b.dJ.drop k)=mO b.dJ)∧wr=Y) (λi _=>b.dJ.length-(intOf i).toNat)
 case atStart=>exact⟨0,bg _,rfl,dw rfl,rfl⟩
 case round=>
  obtain⟨k,hk,rfl,hx,hwr⟩:=hrel;replace hwr:=hwr.symm;subst hwr
  by_cases hlt:k<b.dJ.length
  .have hlt':(k:Int)<(b.dJ.length:Int):=by omega
   obtain⟨bb,off,rfl,hbb,hc⟩:=h1 (by omega);have r:=FM hc hlt;have hd:=DC hlt;rw[hx.out]at hd;generalize b.dJ[k]=s at r hd
   by_cases hq:100<s.size
   .have hq':(100:Int)<(s.size:Int):=by omega
    have HD:Hid (mO b.dJ=true):=dw (by rw[hd,decide_eq_true hq];simp);clear hd hc hx;go_wp2;go_ret;exact⟨by rw[<-HR2.out,HD.out];simp,G.out.1⟩
   .have hq':¬(100:Int)<(s.size:Int):=by omega
    have HD:Hid (mO b.dJ=mO (b.dJ.drop (k+1))):=dw (by rw[hd,decide_eq_false hq];simp);clear hd hc hx;go_wp2;go_roundw
    case rel=>exact⟨k+1,by omega,by go_num,dw HD.out.symm,trivial⟩
    case measure=>simp[intOf];omega
  .obtain rfl:k=b.dJ.length:=by omega
   have HF3:Hid (mO b.dJ=false):=dw (by rw[<-hx.out,aF];rfl);clear hx hlt hk;go_wp2
   go_loopw [4] (λi wr=>∃k:Nat,k<=b.dz.length∧i=.int .i64 (k:Int)∧Hid (mO (b.dz.drop k)=mO b.dz)∧wr=Y) (λi _=>b.dz.length-(intOf i).toNat)
   case atStart=>exact⟨0,bg _,rfl,dw rfl,rfl⟩
   case round=>
    obtain⟨k,hk,rfl,hx,hwr⟩:=hrel;replace hwr:=hwr.symm;subst hwr
    by_cases hlt:k<b.dz.length
    .have hlt':(k:Int)<(b.dz.length:Int):=by omega
     obtain⟨bb,off,rfl,hbb,hc⟩:=h2 (by omega);have r:=FM hc hlt;have hd:=DC hlt;rw[hx.out]at hd;generalize b.dz[k]=s at r hd
     by_cases hq:100<s.size
     .have hq':(100:Int)<(s.size:Int):=by omega
      have HD:Hid (mO b.dz=true):=dw (by rw[hd,decide_eq_true hq];simp);clear hd hc hx;go_wp2;go_ret;exact⟨by rw[<-HR2.out,HD.out];simp,G.out.1⟩
     .have hq':¬(100:Int)<(s.size:Int):=by omega
      have HD:Hid (mO b.dz=mO (b.dz.drop (k+1))):=dw (by rw[hd,decide_eq_false hq];simp);clear hd hc hx;go_wp2;go_roundw
      case rel=>exact⟨k+1,by omega,by go_num,dw HD.out.symm,trivial⟩
      case measure=>simp[intOf];omega
    .obtain rfl:k=b.dz.length:=by omega
     have HF4:Hid (mO b.dz=false):=dw (by rw[<-hx.out,aF];rfl);clear hx hlt hk;go_wp2
     go_loopw [5] (λi wr=>∃k:Nat,k<=b.steps.length∧i=.int .i64 (k:Int)∧Hid (ve (b.steps.drop k)=ve b.steps)∧wr=Y) (λi _=>b.steps.length-(intOf i).toNat)
     case atStart=>exact⟨0,bg _,rfl,dw rfl,rfl⟩
     case round=>
      obtain⟨k,hk,rfl,hx,hwr⟩:=hrel;replace hwr:=hwr.symm;subst hwr
      by_cases hlt:k<b.steps.length
      .have hlt':(k:Int)<(b.steps.length:Int):=by omega
       obtain⟨bb,off,rfl,hbb,hc⟩:=h3 (by omega);obtain⟨-,r1,r2, -⟩:=sZ hc hlt;have hd:=Lm hlt;rw[hx.out]at hd;generalize b.steps[k]=s at r1 r2 hd
       by_cases hq:40<s.ins.length
       .have hq':(40:Int)<(s.ins.length:Int):=by omega
        have HD:Hid (ve b.steps=true):=dw (by rw[hd,decide_eq_true hq];simp);clear hd hc hx;go_wp2;go_ret;exact⟨by rw[<-HR2.out,HD.out];simp,G.out.1⟩
       .have hq':¬(40:Int)<(s.ins.length:Int):=by omega
        rw[decide_eq_false hq,Bool.false_or]at hd
        by_cases hr:40<s.outs.length
        .have hr':(40:Int)<(s.outs.length:Int):=by omega
         have HD:Hid (ve b.steps=true):=dw (by rw[hd,decide_eq_true hr];simp);clear hd hc hx;go_wp2;go_ret;exact⟨by rw[<-HR2.out,HD.out];simp,G.out.1⟩
        .have hr':¬(40:Int)<(s.outs.length:Int):=by omega
         have HD:Hid (ve b.steps=ve (b.steps.drop (k+1))):=dw (by rw[hd,decide_eq_false hr];simp);clear hd hc hx;go_wp2;go_roundw
         case rel=>exact⟨k+1,by omega,by go_num,dw HD.out.symm,trivial⟩
         case measure=>simp[intOf];omega
      .obtain rfl:k=b.steps.length:=by omega
       have hf:ve b.steps=false:=by rw[<-hx.out,aF];rfl
       have HF5:=dw hf;clear hf hx;go_wp2;go_ret;exact⟨by rw[<-HR2.out,HF3.out,HF4.out,HF5.out];rfl,G.out.1⟩
end
end Go.Proofs
