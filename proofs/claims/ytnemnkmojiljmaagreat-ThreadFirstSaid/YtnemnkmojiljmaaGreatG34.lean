/- Part 34. -/
import Derived.Test.YtnemnkmojiljmaaGreatG32
set_option maxRecDepth 100000
set_option maxHeartbeats 0
set_option linter.all false
namespace Go.Proofs
open Go Go.RowKit Go.Maps
theorem Nz {np:Nat} {M:List Int}:∀{l U:List Int},(uF np M l U).1=0->(uF np M l U).2=U++l
 | [],U,_=>by simp [uF]
 |p::r,U,h=>by
  unfold uF at h ⊢
  by_cases h1:nQ p 0 ((np:Int) - 1)=false
  ·rw [aj h1] at h;cases h
  rw [aa h1] at h ⊢
  by_cases h2:M.contains p=false
  ·rw [aj h2] at h;cases h
  rw [aa h2] at h ⊢
  by_cases h3:U.contains p=true
  ·rw [aj h3] at h;cases h
  rw [aa h3] at h ⊢;rw [Nz h,List.append_assoc];rfl
theorem EB {np:Nat}:∀{l M:List Int},(kX np l M).1=0->(kX np l M).2=M++l
 | [],M,_=>by simp [kX]
 |p::r,M,h=>by
  unfold kX at h ⊢
  by_cases h1:nQ p 0 ((np:Int) - 1)=false
  ·rw [aj h1] at h;cases h
  rw [aa h1] at h ⊢
  by_cases h2:M.contains p=true
  ·rw [aj h2] at h;cases h
  rw [aa h2] at h ⊢;rw [EB h,List.append_assoc];rfl
theorem IL (b:dY) {i:Nat} (h:i<b.steps.length):gP b (i+1)=gP b i++b.steps[i].outs:=by
 unfold gP;rw [bB h,List.flatMap_append];simp
theorem PD (b:dY) {i:Nat} (h:i<b.steps.length):sF b (i+1)=sF b i++b.steps[i].ins:=by
 unfold sF;rw [bB h,List.flatMap_append];simp
def zX (b:dY) (i:Nat):Int×List Int:=lX b.dR.length b.dF.length (b.steps.drop i) (gP b i) (sF b i)
theorem TC [Lo.St] {b:dY} {i:Nat} (h:i<b.steps.length) (hf:qf b i b.steps[i]≠0):(zX b i).1=qf b i b.steps[i]:=by
 unfold zX;rw [zO _ _ _ _ _ _ h];unfold qf at hf ⊢
 by_cases h1:nQ b.steps[i].hand 0 ((b.dR.length:Int) - 1)=false
 ·rw [aj h1,aj h1]
 rw [aa h1] at hf ⊢;rw [aa h1]
 by_cases h2:(uF b.dF.length (gP b i) b.steps[i].ins (sF b i)).1≠0
 ·rw [aj h2,aj h2]
 rw [aa h2] at hf ⊢;rw [aa h2]
 by_cases h3:(kX b.dF.length b.steps[i].outs (gP b i)).1≠0
 ·rw [aj h3,aj h3]
 rw [aa h3] at hf ⊢;rw [aa h3]
 by_cases h4:fC b.steps[i].g0 b.steps[i].g1 0 1000000=false
 ·rw [aj h4,aj h4]
 rw [aa h4] at hf ⊢;rw [aa h4]
 by_cases h5:fC b.steps[i].l0 b.steps[i].l1 0 1000000=false
 ·rw [aj h5,aj h5]
 ·rw [aa h5] at hf;exact absurd rfl hf
theorem NA [Lo.St] {b:dY} {i:Nat} (h:i<b.steps.length) (hf:qf b i b.steps[i]=0):zX b i=zX b (i+1)∧(kX b.dF.length b.steps[i].outs (gP b i)).1=0:=by
 unfold zX;rw [zO _ _ _ _ _ _ h];unfold qf at hf
 by_cases h1:nQ b.steps[i].hand 0 ((b.dR.length:Int) - 1)=false
 ·rw [aj h1] at hf;cases hf
 rw [aa h1] at hf ⊢
 by_cases h2:(uF b.dF.length (gP b i) b.steps[i].ins (sF b i)).1≠0
 ·rw [aj h2] at hf;exact absurd hf h2
 rw [aa h2] at hf ⊢
 by_cases h3:(kX b.dF.length b.steps[i].outs (gP b i)).1≠0
 ·rw [aj h3] at hf;exact absurd hf h3
 rw [aa h3] at hf ⊢
 by_cases h4:fC b.steps[i].g0 b.steps[i].g1 0 1000000=false
 ·rw [aj h4] at hf;cases hf
 rw [aa h4] at hf ⊢
 by_cases h5:fC b.steps[i].l0 b.steps[i].l1 0 1000000=false
 ·rw [aj h5] at hf;cases hf
 rw [aa h5];have e2:=Classical.not_not.1 h2;have e3:=Classical.not_not.1 h3;rw [Nz e2,EB e3,IL b h,PD b h];exact ⟨rfl,e3⟩
theorem Ke (b:dY):zX b b.steps.length=(0,gP b b.steps.length):=by unfold zX;rw [aF];rfl
theorem NB {l M:List Int} (hl:l.Nodup) (h:∀x∈l,x∈M):l.length<=M.length:=by
 induction l generalizing M with
 |nil=>exact bq _
 |cons a l ih=>
  have ha:=h a aQ;rw [List.nodup_cons] at hl;have :=ih (M:=M.erase a) hl.2 λx hx=>(List.mem_erase_of_ne (by rintro rfl;exact hl.1 hx)).2 (h x (aR _ hx))
  rw [List.length_erase_of_mem ha] at this;have :=List.length_pos_of_mem ha;rw [List.length_cons];omega
def rng (n:Nat):List Int:=(List.range n).map Int.ofNat
theorem TD (n:Nat):(rng n).Nodup:=by
 unfold rng;rw [List.nodup_iff_pairwise_ne,List.pairwise_map];refine List.Pairwise.imp (λ{a b} h e=>h ?_) (List.nodup_iff_pairwise_ne.1 List.nodup_range);exact Int.ofNat.inj e
theorem Lm {n:Nat} {x:Int}:x∈rng n↔0<=x∧x<(n:Int):=by
 unfold rng;rw [List.mem_map];constructor
 ·rintro ⟨k,hk,rfl⟩;have :=List.mem_range.1 hk;exact ⟨by simp,by simpa using this⟩
 ·rintro ⟨h1,h2⟩;exact ⟨x.toNat,List.mem_range.2 (by omega),by simp;omega⟩
theorem Xq {M:List Int} {n:Nat} (h:∀p:Nat,p<n->M.contains (p:Int)=true):n<=M.length:=by
 have :=NB (TD n) (M:=M) λx hx=>by
  obtain ⟨h1,h2⟩:=Lm.1 hx;have :=h x.toNat (by omega);rw [show ((x.toNat:Nat):Int)=x by omega] at this;simpa using this
 simpa [rng] using this
theorem TE {M:List Int} {n p:Nat} (hM:M.Nodup) (hr:∀x∈M,0<=x∧x<(n:Int)) (hp:p<n) (hc:M.contains (p:Int)=false):M.length<n:=by
 have hc':(p:Int) ∉ M:=by simpa using hc
 have :=NB (M:=rng n) (l:=(p:Int)::M) (List.nodup_cons.2 ⟨hc',hM⟩) λx hx=>by
  rcases bF.1 hx with rfl|hx
  ·exact Lm.2 ⟨by omega,by omega⟩
  ·exact Lm.2 (hr x hx)
 simp [rng] at this;omega
section
variable [Lo.St]
def NC (b:dY) (k:Nat):Prop:=∀j (h:j<b.steps.length),j<k->qf b j b.steps[j]=0
theorem TF {b:dY} {k:Nat} (h:NC b k) (hk:k<b.steps.length) (hf:qf b k b.steps[k]=0):NC b (k+1):= λj hj hlt=>by
 by_cases e:j=k
 ·subst e;exact hf
 ·exact h j hj (by omega)
theorem yV {b:dY}:∀{k:Nat},NC b k->k<=b.steps.length->zX b 0=zX b k
 |0,_,_=>rfl
 |k+1,h,hk=>by
  rw [yV (k:=k) (λj hj hlt=>h j hj (by omega)) (by omega)];exact (NA (by omega) (h k (by omega) (by omega))).1
theorem IM {b:dY}:∀{k:Nat},NC b k->k<=b.steps.length->(gP b k).Nodup∧∀x∈gP b k,0<=x∧x<(b.dF.length:Int)
 |0,_,_=>by unfold gP;simp
 |k+1,h,hk=>by
  obtain ⟨h1,h2⟩:=IM (k:=k) (λj hj hlt=>h j hj (by omega)) (by omega);have h3:=(NA (by omega) (h k (by omega) (by omega))).2;rw [IL b (by omega)];refine ⟨EB h3 ▸ zP h1 h3, λx hx=>?_⟩;rcases List.mem_append.1 hx with hx|hx
  ·exact h2 x hx
  ·have :=K6 h3 x hx;omega
theorem Ck (b:dY):zX b 0=lX b.dR.length b.dF.length b.steps [] []:=by
 unfold zX gP sF;simp
theorem IP {b:dY} {k:Nat} (h:NC b k) (hk:k<b.steps.length) (hf:qf b k b.steps[k]≠0) (h8:¬8<b.steps.length):fO b=qf b k b.steps[k]:=by
 have e:(lX b.dR.length b.dF.length b.steps [] []).1=qf b k b.steps[k]:=by rw [<-Ck,yV h (by omega),TC hk hf]
 unfold fO;rw [aa h8,aj (by rw [e];exact hf),e]
theorem Fy {b:dY} (h:NC b b.steps.length) (h8:¬8<b.steps.length) {p:Nat} (hp:p<b.dF.length) (hc:(gP b b.steps.length).contains (p:Int)=false):fO b=6:=by
 have e:lX b.dR.length b.dF.length b.steps [] []=(0,gP b b.steps.length):=by rw [<-Ck,yV h (aJ _),Ke]
 obtain ⟨h1,h2⟩:=IM h (aJ _);unfold fO;rw [aa h8,e,aa (by simp),aj (TE h1 h2 hp hc)]
theorem Fz {b:dY} (h:NC b b.steps.length) (h8:¬8<b.steps.length) (hc:∀p:Nat,p<b.dF.length->(gP b b.steps.length).contains (p:Int)=true):fO b=0:=by
 have e:lX b.dR.length b.dF.length b.steps [] []=(0,gP b b.steps.length):=by rw [<-Ck,yV h (aJ _),Ke]
 unfold fO;rw [aa h8,e,aa (by simp),aa (by have :=Xq hc;simp;omega)]
theorem Xr {b:dY} (h:¬eB b.dR 4=0):fP b=eB b.dR 4:=by unfold fP;rw [aj h]
theorem Xt {b:dY} (h:eB b.dR 4=0) (h2:¬eB b.dF 12=0):fP b=eB b.dF 12:=by unfold fP;rw [aa (by rw [h];simp),aj h2]
theorem IQ {b:dY} (h:eB b.dR 4=0) (h2:eB b.dF 12=0) {x:Int} (h3:fO b=x) (hx:x≠0):fP b=x:=by unfold fP;rw [aa (by rw [h];simp),aa (by rw [h2];simp),h3,aj hx]
theorem Xu {b:dY} (h:eB b.dR 4=0) (h2:eB b.dF 12=0) (h3:fO b=0):fP b=if 10<b.dJ.length then 2 else kZ b.dF.length b.dJ:=by unfold fP;rw [aa (by rw [h];simp),aa (by rw [h2];simp),h3,aa (by simp)]
attribute [local irreducible] wpQuiet
theorem Lo.PE {w:World} {B:Nat} {b:dY} {v:gK} {x:Value} (hx:x=eH b v) (hb:fJ w B b v) (hB:B<=w.heap.size) (hg:b.small) (hbc:DI b v):
 Calls Lo.prog 18 #[x] w λe w'=>e= .returned (.int .i64 (fP b))∧Below w.heap.size w w':=by
 obtain ⟨U,U2,U3,U4,U5,U6⟩:=Lo.facts;have C:=Lo.call Tryz.func51;have C2:=Lo.call Tryz.func52;have C3:=Lo.call Tryz.func53;have C4:=Lo.call Tryz.func54;have C5:=Lo.call Tryz.func55;subst hx;have l1:=hg.dR;have l2:=hg.dF;have l3:=hg.steps;have l4:=hg.dJ;have hsc:=hb.dJ;have O1:=dB (aM hb hbc);clear hb hbc;have hbv:eH b v=Value.agg #[.slice v.ah b.dR.length v.ch,.slice v.ap b.dF.length v.cp,.slice v.jY b.steps.length v.cs,.slice v.ac b.dJ.length v.cc]:=rfl;have jJ:=dB hbv;rw [hbv];clear hbv;obtain ⟨Y,hY⟩:∃Y,w.alloc (.cells #[.slice v.ah b.dR.length v.ch,.slice v.ap b.dF.length v.cp,.slice v.jY b.steps.length v.cs,.slice v.ac b.dJ.length v.cc] 26)=Y:=⟨_,rfl⟩;have bW:Below w.heap.size w Y:=hY ▸ (dz _ _).alloc (aJ _) _;have sY:Y.heap.size=w.heap.size+1:=by rw [<-hY];simp
 have g0:Y.heap[w.heap.size]?=some (.cells #[.slice v.ah b.dR.length v.ch,.slice v.ap b.dF.length v.cp,.slice v.jY b.steps.length v.cs,.slice v.ac b.dJ.length v.cc] 26):=by rw [<-hY];exact di _ _
 have hC:∀W,Below Y.heap.size Y W->W.cell? ⟨w.heap.size,0,none⟩=some (.slice v.ah b.dR.length v.ch)∧W.cell? ⟨w.heap.size,1,none⟩=some (.slice v.ap b.dF.length v.cp)∧W.cell? ⟨w.heap.size,2,none⟩=some (.slice v.jY b.steps.length v.cs)∧W.cell? ⟨w.heap.size,3,none⟩=some (.slice v.ac b.dJ.length v.cc):= λW hW=>by
  have p1:=(hW.block w.heap.size (by omega)).trans g0;exact ⟨cell_of p1 0,cell_of p1 1,cell_of p1 2,cell_of p1 3⟩
 have hA:∀W,Below Y.heap.size Y W->fJ W B b v:= λW hW=>O1.out.1.keep λd o h=>dP (bW.trans (hW.mono (by omega))) d o (by omega)
 have HC:=dB hC;have HA:=dB hA;have G:=dB bW;have HY:=dB hY;clear hC hA bW g0 hY;have k1:=O1.out.1.lh;have k2:=O1.out.1.lp;generalize ha1:v.ah=a1 at HC jJ HY ⊢;generalize ha2:v.ap=a2 at HC jJ HY ⊢;generalize ha3:v.jY=a3 at HC jJ HY ⊢;generalize ha4:v.ac=a4 at HC jJ HY hsc ⊢;generalize hc1:v.ch=c1 at HC jJ HY k1 ⊢;generalize hc2:v.cp=c2 at HC jJ HY k2 ⊢;generalize hc3:v.cs=c3 at HC jJ HY ⊢;generalize hc4:v.cc=c4 at HC jJ HY ⊢;have HV:=dB (aM ha1 ha2);clear ha1 ha2 ha3 ha4 hc1 hc2 hc3 hc4;go_enter Lo.get Tryz.func18,Tryz.ntmps18;go_wp2;have hy:=HY.out;rw [hy];clear hy HY;refine (Lo.IJ (most:=4) (HV.out.1 ▸ (HA.out Y (dz _ _)).dR) l1 k1 (by omega) (by omega)).mono ?_
 rintro e w1 ⟨rfl,h1⟩;obtain ⟨f0,f1,f2,f3⟩:=HC.out w1 h1;generalize hx1:eB b.dR 4=x1
 by_cases z1:x1=0
 case neg=>
  have H1:=dB (aM h1 hx1);clear h1 hx1;go_wp2;go_ret;exact ⟨by rw [Xr (by rw [H1.out.2];exact z1),H1.out.2];rfl,G.out.trans (H1.out.1.mono (by omega))⟩
 subst z1;have H1:=dB hx1;clear hx1;go_wp2;refine (Lo.IJ (most:=12) (HV.out.2 ▸ (HA.out w1 h1).dF) l2 k2 (by have :=h1.size;omega) (by omega)).mono ?_
 rintro e w2 ⟨rfl,h2⟩;replace h2:=h1.trans (h2.mono h1.size);clear h1 f0 f1 f2 f3;obtain ⟨f0,f1,f2,f3⟩:=HC.out w2 h2;generalize hx2:eB b.dF 12=x2
 by_cases z2:x2=0
 case neg=>
  have H2:=dB (aM h2 hx2);clear h2 hx2;go_wp2;go_ret;exact ⟨by rw [Xt H1.out (by rw [H2.out.2];exact z2),H2.out.2];rfl,G.out.trans (H2.out.1.mono (by omega))⟩
 subst z2;have H2:=dB hx2;clear hx2
 by_cases h8:8<b.steps.length
 ·have h8':(8:Int)<(b.steps.length:Int):=by omega
  have HQ:=dB h2;clear h2;go_wp2;go_ret;exact ⟨by rw [IQ (x:=2) H1.out H2.out (by unfold fO;rw [aj h8]) (by decide)];rfl,G.out.trans (HQ.out.mono (by omega))⟩
 have h8':¬(8:Int)<(b.steps.length:Int):=by omega
 have HQ:=dB h2;clear h2;go_wp2;clear f0 f1 f2 f3
 go_loopw [5] (λix wr=>∃k:Nat,k<=b.steps.length∧ix= .int .i64 (k:Int)∧Hid (NC b k)∧Below Y.heap.size Y wr) (λix _=>b.steps.length - (intOf ix).toNat)
 case atStart=>exact ⟨0,bq _,rfl,dB (λj _ h=>absurd h (Nat.not_lt_zero _)),HQ.out⟩
 case round=>
  obtain ⟨k,hk,rfl,hx,hb⟩:=hrel;obtain ⟨f0,f1,f2,f3⟩:=HC.out wr hb
  by_cases hlt:k<b.steps.length
  ·have hlt':(k:Int)<(b.steps.length:Int):=by omega
   go_wp2;refine (Lo.Jf (i:=k) jJ.out.symm (HA.out wr hb) (by have :=hb.size;omega) hg O1.out.2 hlt).mono ?_
   rintro e w3 ⟨rfl,h3⟩;replace h3:=hb.trans (h3.mono hb.size);clear hb f0 f1 f2 f3;obtain ⟨f0,f1,f2,f3⟩:=HC.out w3 h3;generalize hx3:qf b k b.steps[k]=x3
   by_cases z3:x3=0
   ·subst z3;have H3:=dB (aM h3 hx3);clear h3 hx3;go_wp2;go_roundw
    case rel=>exact ⟨k+1,by omega,by go_num,dB (TF hx.out hlt H3.out.2),H3.out.1⟩
    case measure=>simp [intOf];omega
   ·have H3:=dB (aM h3 hx3);clear h3 hx3;go_wp2;go_ret;exact ⟨by rw [IQ (x:=x3) H1.out H2.out (H3.out.2 ▸ IP hx.out hlt (by rw [H3.out.2];exact z3) h8) z3];rfl,G.out.trans (H3.out.1.mono (by omega))⟩
  ·obtain rfl:k=b.steps.length:=by omega
   have HO:=hx;clear hx hlt hk;go_wp2;clear HQ f0 f1 f2 f3;have HQ:=dB hb;clear hb;generalize wr=w4 at *
   go_loopw [7] (λix wr=>∃k:Nat,k<=b.dF.length∧ix= .int .i64 (k:Int)∧Hid (∀p:Nat,p<k->(gP b b.steps.length).contains (p:Int)=true)∧Below Y.heap.size Y wr) (λix _=>b.dF.length - (intOf ix).toNat)
   case atStart=>exact ⟨0,bq _,rfl,dB (λj h=>absurd h (Nat.not_lt_zero _)),HQ.out⟩
   case round=>
    obtain ⟨k,hk,rfl,hx,hb⟩:=hrel;obtain ⟨f0,f1,f2,f3⟩:=HC.out wr hb
    by_cases hlt:k<b.dF.length
    ·have hlt':(k:Int)<(b.dF.length:Int):=by omega
     go_wp2;refine (Lo.xX (n:=b.steps.length) (p:=(k:Int)) jJ.out.symm (HA.out wr hb) (by have :=hb.size;omega) hg (aJ _)).mono ?_
     rintro e w3 ⟨rfl,h3⟩;replace h3:=hb.trans (h3.mono hb.size);clear hb f0 f1 f2 f3;obtain ⟨f0,f1,f2,f3⟩:=HC.out w3 h3;have em:(gP b b.steps.length).contains (k:Int)=((b.steps.take b.steps.length).map eY.outs).any λl=>l.contains (k:Int):=by unfold gP;rw [List.flatMap_def,tO]
     generalize hfm:iA (k:Int) ((b.steps.take b.steps.length).map eY.outs) 0=fm;cases hct:(gP b b.steps.length).contains (k:Int) with
     |false=>
      rw [oz _ _ _ (em ▸ hct)] at hfm;subst hfm;have H3:=dB (aM h3 hct);clear h3 hct em;go_wp2;go_ret;exact ⟨by rw [IQ (x:=6) H1.out H2.out (Fy HO.out h8 hlt H3.out.2) (by decide)];rfl,G.out.trans (H3.out.1.mono (by omega))⟩
     |true=>
      obtain ⟨n,hn⟩:=oC _ _ 0 (em ▸ hct);obtain rfl:=hfm.symm.trans hn;have hnn:¬(n:Int)<0:=by omega
      have H3:=dB (aM h3 hct);clear h3 hct em hn hfm;go_wp2;go_roundw
      case rel=>exact ⟨k+1,by omega,by go_num,dB (λp hp=>if e:p=k then e ▸ H3.out.2 else hx.out p (by omega)),H3.out.1⟩
      case measure=>simp [intOf];omega
    ·obtain rfl:k=b.dF.length:=by omega
     have HG:=dB (Xu H1.out H2.out (Fz HO.out h8 hx.out));clear hx hlt hk HO HQ
     by_cases h10:10<b.dJ.length
     ·have aB7:(10:Int)<(b.dJ.length:Int):=by omega
      have HQ:=dB hb;clear hb;go_wp2;go_ret;exact ⟨by rw [HG.out,aj h10];rfl,G.out.trans (HQ.out.mono (by omega))⟩
     have aB7:¬(10:Int)<(b.dJ.length:Int):=by omega
     go_wp2;clear f0 f1 f2 f3;have HQ:=dB hb;clear hb;generalize wr=w5 at *;obtain ⟨Cl,hCl⟩:∃Cl:World->Prop,∀W,Cl W↔Below Y.heap.size Y W:=⟨_, λ_=>Iff.rfl⟩;have mY:=dB hCl;clear hCl;have iw3:IntKind.i64.wrap ((b.dF.length:Int) - 1)=(b.dF.length:Int) - 1:=by rw [dh];omega
     go_loopw [8] (λix wr=>∃k:Nat,k<=b.dJ.length∧ix= .int .i64 (k:Int)∧Hid (kZ b.dF.length (b.dJ.drop k)=kZ b.dF.length b.dJ)∧Below Y.heap.size Y wr) (λix _=>b.dJ.length - (intOf ix).toNat)
     case atStart=>exact ⟨0,bq _,rfl,dB rfl,HQ.out⟩
     case round=>
      obtain ⟨k,hk,rfl,hx,hb⟩:=hrel;obtain ⟨f0,f1,f2,f3⟩:=HC.out wr hb
      by_cases hlt:k<b.dJ.length
      ·have hlt':(k:Int)<(b.dJ.length:Int):=by omega
       obtain ⟨sb,so,rfl,hsb,hs⟩:=hsc (by omega);obtain ⟨r0,r1,r2⟩:=Hq hs hlt;have hd:=Dr b.dF.length b.dJ k hlt;rw [hx.out] at hd;generalize b.dJ[k]=sc at r0 r1 r2 hd
       have hS:∀W,Below Y.heap.size Y W->W.cell? ⟨w.heap.size,1,none⟩=some (.slice a2 b.dF.length c2)∧W.cell? ⟨w.heap.size,3,none⟩=some (.slice (some ⟨sb,so,none⟩) b.dJ.length c4)∧W.cell? ⟨sb,so+k*3,none⟩=some (.int .i64 sc.pile)∧W.cell? ⟨sb,so+k*3+1,none⟩=some (.int .i64 sc.lo)∧W.cell? ⟨sb,so+k*3+2,none⟩=some (.int .i64 sc.hi):= λW hW=>by
        have h:=G.out.trans (hW.mono (by omega));exact ⟨(HC.out W hW).2.1,(HC.out W hW).2.2.2,(dP h _ _ (by omega)).trans r0,(dP h _ _ (by omega)).trans r1,(dP h _ _ (by omega)).trans r2⟩
       have HS:=dB hS;have HD:=dB hd;clear hS hd hs hx r0 r1 r2 f0 f1 f2 f3;obtain ⟨f1,f3,f4,f5,f6⟩:=HS.out wr hb;go_wp2;refine jX (C:=Cl) Lo.mixed (by kernel_rfl) ((mY.out _).2 hb.drew) ?_
       repeat
        refine wpQuiet_step (λK hK=>?_);go_simp
        first
         |(apply Exists.intro;refine ⟨λW hW=>?_,hK _ ?_⟩
           ·obtain ⟨f1,f3,f4,f5,f6⟩:=HS.out W ((mY.out W).1 hW)
            first
             |rfl
             |(go_simp;rfl)
             |(go_simp;go_at_call 54;refine (Lo.AA _ _ _ _).mono ?_;rintro e w9 ⟨rfl,rfl⟩;exact ⟨rfl,hW⟩)
           clear hK K)
         |(refine hK _ ?_;clear hK K)
       refine wpQuiet_nil ?_
       clear hb f1 f3 f4 f5 f6;intro z1 hb;replace hb:=(mY.out _).1 hb;obtain ⟨f1,f3,f4,f5,f6⟩:=HS.out z1 hb;cases hbt:nQ sc.pile 0 ((b.dF.length:Int) - 1) with
       |false=>
        have HP:=dB hbt;clear hbt;go_wp2;go_ret;exact ⟨by rw [HG.out,aa h10,HD.out,aj HP.out];rfl,G.out.trans (hb.mono (by omega))⟩
       |true=>
        have HP:=dB hbt;clear hbt;go_wp2;refine (Lo.Lh _ _ _ _ _).mono ?_
        rintro e w8 ⟨rfl,h8z⟩;replace h8z:=hb.trans (h8z.mono hb.size);cases hin:fC sc.lo sc.hi 0 1000000 with
        |false=>
         have HI:=dB (aM hin h8z);clear hin h8z;go_wp2;go_ret;exact ⟨by rw [HG.out,aa h10,HD.out,aa (by rw [HP.out];simp),aj HI.out.1];rfl,G.out.trans (HI.out.2.mono (by omega))⟩
        |true=>
         have HI:=dB (aM hin h8z);clear hin h8z;go_wp2;go_roundw
         case rel=>exact ⟨k+1,by omega,by go_num,dB (by rw [HD.out,aa (by rw [HP.out];simp),aa (by rw [HI.out.1];simp)]),HI.out.2⟩
         case measure=>simp [intOf];omega
      ·obtain rfl:k=b.dJ.length:=by omega
       have hz:kZ b.dF.length b.dJ=0:=by rw [<-hx.out,aF];rfl
       have HZ:=dB (aM hz hb);clear hz hx hb;go_wp2;go_ret;exact ⟨by rw [HG.out,aa h10,HZ.out.1];rfl,G.out.trans (HZ.out.2.mono (by omega))⟩
end
section
def sG (l:List ByteArray):Bool:=l.any λs=>decide (100<s.size)
def zY (l:List eY):Bool:=l.any λs=>decide (40<s.ins.length)||decide (40<s.outs.length)
def EC (b:dY):Bool:=decide (40<b.dR.length)||decide (40<b.dF.length)||decide (40<b.steps.length)||decide (40<b.dJ.length)||sG b.dR||sG b.dF||zY b.steps
theorem Lp {b:dY} (h:EC b=false):b.small:=by
 unfold EC at h;simp only [Bool.or_eq_false_iff,decide_eq_false_iff_not] at h;obtain ⟨⟨⟨⟨⟨⟨h1,h2⟩,h3⟩,h4⟩, -⟩, -⟩,h5⟩:=h;refine ⟨by omega,by omega,by omega,by omega, λs hs=>?_, λs hs=>?_⟩
 ·have :=List.any_eq_false.1 h5 s hs;simp at this;omega
 ·have :=List.any_eq_false.1 h5 s hs;simp at this;omega
theorem IU {l:List ByteArray} {k:Nat} (h:k<l.length):sG (l.drop k)=(decide (100<l[k].size)||sG (l.drop (k+1))):=by rw [aW h];rfl
theorem PG {l:List eY} {k:Nat} (h:k<l.length):zY (l.drop k)=((decide (40<l[k].ins.length)||decide (40<l[k].outs.length))||zY (l.drop (k+1))):=by rw [aW h];rfl
variable [Lo.St]
theorem Lo.TG {w:World} {B:Nat} {b:dY} {v:gK} {x:Value} (hx:x=eH b v) (hb:fJ w B b v) (hB:B<=w.heap.size):
 Calls Lo.prog 13 #[x] w λe w'=>e= .returned (.bool (EC b))∧Below w.heap.size w w':=by
 obtain ⟨U,U2,U3,U4,U5,U6⟩:=Lo.facts;subst hx;have hbv:eH b v=Value.agg #[.slice v.ah b.dR.length v.ch,.slice v.ap b.dF.length v.cp,.slice v.jY b.steps.length v.cs,.slice v.ac b.dJ.length v.cc]:=rfl;rw [hbv];obtain ⟨Y,hY⟩:∃Y,w.alloc (.cells #[.slice v.ah b.dR.length v.ch,.slice v.ap b.dF.length v.cp,.slice v.jY b.steps.length v.cs,.slice v.ac b.dJ.length v.cc] 26)=Y:=⟨_,rfl⟩;have bW:Below w.heap.size w Y:=hY ▸ (dz _ _).alloc (aJ _) _;have hbY:fJ Y B b v:=hb.keep λd o h=>dP bW d o (by omega)
 have g0:Y.heap[w.heap.size]?=some (.cells #[.slice v.ah b.dR.length v.ch,.slice v.ap b.dF.length v.cp,.slice v.jY b.steps.length v.cs,.slice v.ac b.dJ.length v.cc] 26):=by rw [<-hY];exact di _ _
 have f0:=cell_of g0 0 (v:=.slice v.ah b.dR.length v.ch);have f1:=cell_of g0 1 (v:=.slice v.ap b.dF.length v.cp);have f2:=cell_of g0 2 (v:=.slice v.jY b.steps.length v.cs);have f3:=cell_of g0 3 (v:=.slice v.ac b.dJ.length v.cc);have h1:=hbY.dR;have h2:=hbY.dF;have h3:=hbY.steps;obtain ⟨R,hR⟩:∃R,EC b=R:=⟨_,rfl⟩;rw [hR];unfold EC at hR;have HR:=dB hR;have G:=dB (aM bW (aM hY hbv));clear hb hbY hbv g0 hR bW hY;generalize v.ah=a1 at *;generalize v.ap=a2 at *;generalize v.jY=a3 at *;generalize v.ac=a4 at *;generalize v.ch=c1 at *;generalize v.cp=c2 at *;generalize v.cs=c3 at *;generalize v.cc=c4 at *;go_enter Lo.get Tryz.func13,Tryz.ntmps13
 by_cases q1:40<b.dR.length
 ·have d1:(40:Int)<(b.dR.length:Int):=by omega
  have q1':=decide_eq_true q1;go_wp2;go_ret;exact ⟨by rw [<-HR.out];rw [q1'];simp,by rw [G.out.2.1];exact G.out.1⟩
 have d1:¬(40:Int)<(b.dR.length:Int):=by omega
 have e1:=decide_eq_false q1
 by_cases q2:40<b.dF.length
 ·have d2:(40:Int)<(b.dF.length:Int):=by omega
  have q2':=decide_eq_true q2;go_wp2;go_ret;exact ⟨by rw [<-HR.out];rw [q2'];simp,by rw [G.out.2.1];exact G.out.1⟩
 have d2:¬(40:Int)<(b.dF.length:Int):=by omega
 have e2:=decide_eq_false q2
 by_cases q3:40<b.steps.length
 ·have d3:(40:Int)<(b.steps.length:Int):=by omega
  have q3':=decide_eq_true q3;go_wp2;go_ret;exact ⟨by rw [<-HR.out];rw [q3'];simp,by rw [G.out.2.1];exact G.out.1⟩
 have d3:¬(40:Int)<(b.steps.length:Int):=by omega
 have e3:=decide_eq_false q3
 by_cases q4:40<b.dJ.length
 ·have d4:(40:Int)<(b.dJ.length:Int):=by omega
  have q4':=decide_eq_true q4;go_wp2;go_ret;exact ⟨by rw [<-HR.out];rw [q4'];simp,by rw [G.out.2.1];exact G.out.1⟩
 have d4:¬(40:Int)<(b.dJ.length:Int):=by omega
 have e4:=decide_eq_false q4;have HR2:Hid ((sG b.dR||sG b.dF||zY b.steps)=R):=dB (by rw [<-HR.out,e1,e2,e3,e4];simp);clear HR e1 e2 e3 e4;go_wp2;rw [G.out.2.1]
 go_loopw [3] (λi wr=>∃k:Nat,k<=b.dR.length∧i= .int .i64 (k:Int)∧Hid (sG (b.dR.drop k)=sG b.dR)∧wr=Y) (λi _=>b.dR.length - (intOf i).toNat)
 case atStart=>exact ⟨0,bq _,rfl,dB rfl,rfl⟩
 case round=>
  obtain ⟨k,hk,rfl,hx,hwr⟩:=hrel;replace hwr:=hwr.symm;subst hwr
  by_cases hlt:k<b.dR.length
  ·have hlt':(k:Int)<(b.dR.length:Int):=by omega
   obtain ⟨bb,off,rfl,hbb,hc⟩:=h1 (by omega);have r:=Kw hc hlt;have hd:=IU hlt;rw [hx.out] at hd;generalize b.dR[k]=s at r hd
   by_cases hq:100<s.size
   ·have hq':(100:Int)<(s.size:Int):=by omega
    have HD:Hid (sG b.dR=true):=dB (by rw [hd,decide_eq_true hq];simp);clear hd hc hx;go_wp2;go_ret;exact ⟨by rw [<-HR2.out,HD.out];simp,G.out.1⟩
   ·have hq':¬(100:Int)<(s.size:Int):=by omega
    have HD:Hid (sG b.dR=sG (b.dR.drop (k+1))):=dB (by rw [hd,decide_eq_false hq];simp);clear hd hc hx;go_wp2;go_roundw
    case rel=>exact ⟨k+1,by omega,by go_num,dB HD.out.symm,trivial⟩
    case measure=>simp [intOf];omega
  ·obtain rfl:k=b.dR.length:=by omega
   have HF3:Hid (sG b.dR=false):=dB (by rw [<-hx.out,aF];rfl);clear hx hlt hk;go_wp2
   go_loopw [4] (λi wr=>∃k:Nat,k<=b.dF.length∧i= .int .i64 (k:Int)∧Hid (sG (b.dF.drop k)=sG b.dF)∧wr=Y) (λi _=>b.dF.length - (intOf i).toNat)
   case atStart=>exact ⟨0,bq _,rfl,dB rfl,rfl⟩
   case round=>
    obtain ⟨k,hk,rfl,hx,hwr⟩:=hrel;replace hwr:=hwr.symm;subst hwr
    by_cases hlt:k<b.dF.length
    ·have hlt':(k:Int)<(b.dF.length:Int):=by omega
     obtain ⟨bb,off,rfl,hbb,hc⟩:=h2 (by omega);have r:=Kw hc hlt;have hd:=IU hlt;rw [hx.out] at hd;generalize b.dF[k]=s at r hd
     by_cases hq:100<s.size
     ·have hq':(100:Int)<(s.size:Int):=by omega
      have HD:Hid (sG b.dF=true):=dB (by rw [hd,decide_eq_true hq];simp);clear hd hc hx;go_wp2;go_ret;exact ⟨by rw [<-HR2.out,HD.out];simp,G.out.1⟩
     ·have hq':¬(100:Int)<(s.size:Int):=by omega
      have HD:Hid (sG b.dF=sG (b.dF.drop (k+1))):=dB (by rw [hd,decide_eq_false hq];simp);clear hd hc hx;go_wp2;go_roundw
      case rel=>exact ⟨k+1,by omega,by go_num,dB HD.out.symm,trivial⟩
      case measure=>simp [intOf];omega
    ·obtain rfl:k=b.dF.length:=by omega
     have HF4:Hid (sG b.dF=false):=dB (by rw [<-hx.out,aF];rfl);clear hx hlt hk;go_wp2
     go_loopw [5] (λi wr=>∃k:Nat,k<=b.steps.length∧i= .int .i64 (k:Int)∧Hid (zY (b.steps.drop k)=zY b.steps)∧wr=Y) (λi _=>b.steps.length - (intOf i).toNat)
     case atStart=>exact ⟨0,bq _,rfl,dB rfl,rfl⟩
     case round=>
      obtain ⟨k,hk,rfl,hx,hwr⟩:=hrel;replace hwr:=hwr.symm;subst hwr
      by_cases hlt:k<b.steps.length
      ·have hlt':(k:Int)<(b.steps.length:Int):=by omega
       obtain ⟨bb,off,rfl,hbb,hc⟩:=h3 (by omega);obtain ⟨-,r1,r2, -⟩:=yL hc hlt;have hd:=PG hlt;rw [hx.out] at hd;generalize b.steps[k]=s at r1 r2 hd
       by_cases hq:40<s.ins.length
       ·have hq':(40:Int)<(s.ins.length:Int):=by omega
        have HD:Hid (zY b.steps=true):=dB (by rw [hd,decide_eq_true hq];simp);clear hd hc hx;go_wp2;go_ret;exact ⟨by rw [<-HR2.out,HD.out];simp,G.out.1⟩
       ·have hq':¬(40:Int)<(s.ins.length:Int):=by omega
        rw [decide_eq_false hq,Bool.false_or] at hd
        by_cases hr:40<s.outs.length
        ·have hr':(40:Int)<(s.outs.length:Int):=by omega
         have HD:Hid (zY b.steps=true):=dB (by rw [hd,decide_eq_true hr];simp);clear hd hc hx;go_wp2;go_ret;exact ⟨by rw [<-HR2.out,HD.out];simp,G.out.1⟩
        ·have hr':¬(40:Int)<(s.outs.length:Int):=by omega
         have HD:Hid (zY b.steps=zY (b.steps.drop (k+1))):=dB (by rw [hd,decide_eq_false hr];simp);clear hd hc hx;go_wp2;go_roundw
         case rel=>exact ⟨k+1,by omega,by go_num,dB HD.out.symm,trivial⟩
         case measure=>simp [intOf];omega
      ·obtain rfl:k=b.steps.length:=by omega
       have hf:zY b.steps=false:=by rw [<-hx.out,aF];rfl
       have HF5:=dB hf;clear hf hx;go_wp2;go_ret;exact ⟨by rw [<-HR2.out,HF3.out,HF4.out,HF5.out];rfl,G.out.1⟩
end
def FQ:List fG->List fG->Prop
 | [],[]=>True
 |x::l,y::r=>(y.lo<=x.lo∧x.hi<=y.hi∧x.fr=y.fr∧x.to=y.to)∧FQ l r
 |_,_=>False
theorem FQ.refl:∀l,FQ l l
 | []=>trivial
 |x::l=>⟨⟨Int.le_refl _,Int.le_refl _,rfl,rfl⟩,FQ.refl l⟩
theorem FQ.append:∀{l r l' r':List fG},FQ l r->FQ l' r'->FQ (l++l') (r++r')
 | [],[],_,_,_,h=>h
 |_::_,_::_,_,_,h,h'=>⟨h.1,h.2.append h'⟩
 | [],_::_,_,_,h,_=>h.elim
 |_::_,[],_,_,h,_=>h.elim
theorem FQ.map {A:Type} (f g:A->fG):∀l:List A,(∀a∈l,(g a).lo<=(f a).lo∧(f a).hi<=(g a).hi∧(f a).fr=(g a).fr∧(f a).to=(g a).to)->FQ (l.map f) (l.map g)
 | [],_=>trivial
 |a::l,h=>⟨h a aQ,FQ.map f g l λx hx=>h x (aR _ hx)⟩
theorem FQ.short {s:Nat}:∀{l r:List fG} {n m:Int},FQ l r->m<=n->r.foldl (Sr s) m<=l.foldl (Sr s) n
 | [],[],_,_,_,h=>h
 |x::l,y::r,n,m,⟨⟨h1,h2,h3,h4⟩,h⟩,hm=>by
  rw [List.foldl_cons,List.foldl_cons];refine h.short ?_
  unfold Sr;rw [h3,h4];split
  ·omega
  split<;>omega
 | [],_::_,_,_,h,_=>h.elim
 |_::_,[],_,_,h,_=>h.elim
theorem FQ.Q0:∀{l r:List fG},FQ l r->kK l=false->kK r=false
 | [],[],_,_=>rfl
 |x::l,y::r,⟨⟨h1,h2,_,_⟩,h⟩,hc=>by
  unfold kK at hc ⊢;rw [List.any_cons,Bool.or_eq_false_iff] at hc ⊢;refine ⟨?_,h.Q0 hc.2⟩;have :=hc.1;simp at this ⊢;omega
 | [],_::_,h,_=>h.elim
 |_::_,[],h,_=>h.elim
theorem FQ.holds {l r:List fG} {nd:Nat} (h:FQ l r) (hl:ic l nd=true):ic r nd=true:=by
 unfold ic at hl ⊢;rw [bD] at hl ⊢;obtain ⟨h1,h2⟩:=hl;refine ⟨?_,?_⟩
 ·rw [Bool.not_eq_true'] at h1 ⊢;exact h.Q0 h1
 ·unfold yJ at h2 ⊢;rw [bH] at h2 ⊢;intro s hs;have :=h2 s hs;simp only [decide_eq_true_eq] at this ⊢;exact Int.le_trans (h.short (Int.le_refl 0)) this
theorem Q5 (p:Int):∀(l:List lW) (x:Int×Int),x.1<=(l.foldl (TP p) x).1∧(l.foldl (TP p) x).2<=x.2
 | [],x=>⟨Int.le_refl _,Int.le_refl _⟩
 |s::l,x=>by
  rw [List.foldl_cons];obtain ⟨h1,h2⟩:=Q5 p l (TP p x s)
  have :x.1<=(TP p x s).1∧(TP p x s).2<=x.2:=by
   unfold TP;split
   ·dsimp only;omega
   ·exact ⟨Int.le_refl _,Int.le_refl _⟩
  omega
theorem ZA (l r:List lW) (p:Int):(lG l p).1<=(lG (l++r) p).1∧(lG (l++r) p).2<=(lG l p).2:=by
 unfold lG;rw [List.foldl_append];exact Q5 p r _
theorem Xv {b c:dY} (hp:b.dF=c.dF) (hs:b.steps=c.steps) {r:List lW} (hc:b.dJ=c.dJ++r) (hand:Int):FQ (fQ b hand) (fQ c hand):=by
 have e:∀k,fU b hand k=fU c hand k:= λk=>by
  induction k with
  |zero=>rfl
  |succ k ih=>unfold fU;rw [ih,hs]
 unfold fQ;rw [e,hp,hs];refine FQ.append (FQ.append (FQ.map _ _ _ λp _=>?_) (FQ.refl _)) (FQ.refl _);unfold p9;have :=ZA c.dJ r (p:Int);rw [hc,hs];exact ⟨this.1,this.2,rfl,rfl⟩
theorem ZC (b:dY) (k:Nat) (hand:Int):FQ (fQ b hand) (fQ (l7 b k) hand):=
 Xv (b:=b) (c:=l7 b k) rfl rfl (r:=b.dJ.drop k) (List.take_append_drop k b.dJ).symm hand
theorem TH {b:dY} (h:iy b=true) (k:Nat):iy (l7 b k)=true:=(ZC b k (-1)).holds h
theorem ZE (b:dY):l7 b b.dJ.length=b:=by unfold l7;rw [List.take_length]
theorem DJ {np:Nat}:∀{l:List lW} (k:Nat),kZ np l=0->kZ np (l.take k)=0
 | [],k,_=>by rw [List.take_nil];rfl
 |s::r,0,_=>rfl
 |s::r,k+1,h=>by
  rw [List.take_succ_cons];unfold kZ at h ⊢
  by_cases h1:nQ s.pile 0 ((np:Int) - 1)=false
  ·rw [aj h1] at h;cases h
  rw [aa h1] at h ⊢
  by_cases h2:fC s.lo s.hi 0 1000000=false
  ·rw [aj h2] at h;cases h
  rw [aa h2] at h ⊢;exact DJ k h
theorem yX [Lo.St] {b:dY} (h:fP b=0) (k:Nat):fP (l7 b k)=0:=by
 obtain ⟨h1,h2,h3,h4,h5⟩:=Eo h;unfold fP;rw [aa (by show ¬eB b.dR 4≠0;rw [h1];simp),aa (by show ¬eB b.dF 12≠0;rw [h2];simp),aa (by show ¬fO b≠0;rw [h3];simp)];rw [aa (by show ¬10<(b.dJ.take k).length;rw [List.length_take];omega)];exact DJ k h5
theorem zi (b:dY):∀(f k:Nat),k+f=b.dJ.length+1->(∀j,j<k->iy (l7 b j)=true)->
 (pF b f k= -1∧iy b=true)∨∃j,j<=b.dJ.length∧pF b f k=(j:Int) - 1∧iy (l7 b j)=false∧∀i,i<j->iy (l7 b i)=true
 |0,k,hk,h=>.inl ⟨rfl,by have :=h b.dJ.length (by omega);rwa [ZE] at this⟩
 |f+1,k,hk,h=>by
  unfold pF
  by_cases hh:iy (l7 b k)=false
  ·rw [aj hh];exact .inr ⟨k,by omega,rfl,hh,h⟩
  ·rw [aa hh];refine zi b f (k+1) (by omega) λj hj=>?_
   by_cases e:j=k
   ·subst e;simpa using hh
   ·exact h j (by omega)
theorem ND (b:dY):(yP b= -1∧(iy b=true∨iy (l7 b 0)=false))∨
 ∃n,n<b.dJ.length∧yP b=(n:Int)∧iy (l7 b n)=true∧iy (l7 b (n+1))=false∧iy b=false∧iy (l7 b 0)=true:=by
 rcases zi b (b.dJ.length+1) 0 (by omega) (λj h=>absurd h (Nat.not_lt_zero _)) with ⟨h1,h2⟩|⟨j,hj,h1,h2,h3⟩
 ·exact .inl ⟨h1,.inl h2⟩
 ·rcases j with _|n
  ·exact .inl ⟨by unfold yP;rw [h1];rfl,.inr h2⟩
  ·refine .inr ⟨n,by omega,by unfold yP;rw [h1];omega,h3 n (by omega),h2,?_,h3 0 (by omega)⟩;cases hb:iy b with
   |false=>rfl
   |true=>rw [TH hb] at h2;cases h2
section
variable [Lo.St]
theorem Lo.tC {w:World} {B:Nat} {b:dY} {v:gK} {x:Value} (hx:x=eH b v) (hb:fJ w B b v) (hB:B<=w.heap.size) (hs:b.small) (hc:fP b=0):
 Calls Lo.prog 15 #[x] w λe w'=>(∃A n c,e= .returned (.tuple #[.slice A n c,.int .i64 (if iy b=true then 0 else 9)]))∧Below w.heap.size w w':=by
 refine (Lo.Ih hx hb hB hs).mono λe w' h=>?_
 obtain ⟨h1,h2⟩:=h;rw [aa (by rw [hc];simp)] at h2;refine ⟨?_,h1⟩
 by_cases hh:iy b=true
 ·rw [aj hh] at h2 ⊢;obtain ⟨A,cap,rfl, -⟩:=h2;exact ⟨_,_,_,rfl⟩
 ·rw [aa hh] at h2 ⊢;exact ⟨_,_,_,h2⟩
theorem Lo.Xw {w:World} {B:Nat} {b:dY} {v:gK} {x:Value} (hx:x=eH b v) (hb:fJ w B b v) (hB:B<=w.heap.size) (hs:b.small) (hc:fP b=0):
 Calls Lo.prog 24 #[x] w λe w'=>e= .returned (.tuple #[.int .i64 (yP b),.int .i64 0])∧Below w.heap.size w w':=by
 refine (Lo.JR hx hb hB hs).mono λe w' h=>?_
 obtain ⟨h1,h2⟩:=h;rw [aa (by rw [hc];simp)] at h2;exact ⟨h2,h1⟩
theorem yY {W:World} {p:Nat} {x y z u:Value} {t:TypeId} {fr:Nat×Nat} (h:W.heap[p]?=some (.cells #[x,y,z,u] t fr)):W.cell? ⟨p,0,none⟩=some x∧W.cell? ⟨p,1,none⟩=some y∧W.cell? ⟨p,2,none⟩=some z∧W.cell? ⟨p,3,none⟩=some u:=⟨cell_of h 0,cell_of h 1,cell_of h 2,cell_of h 3⟩
theorem Lo.PI {w:World} {B:Nat} {b:dY} {v:gK} (h5:ab2) (hb:fJ w B b v) (hB:B<=w.heap.size) (hbc:DI b v):
 Calls Lo.prog 9 #[eH b v] w λe w'=>e= .returned (.bool true):=by
 obtain ⟨U,U2,U3,U4,U5,U6⟩:=Lo.facts;have C:=Lo.call Tryz.func13;have C2:=Lo.call Tryz.func18;have C3:=Lo.call14;have C4:=Lo.call Tryz.func24;have C5:=Lo.call Tryz.func15;have H5:=dB h5;obtain ⟨Y,hY⟩:∃Y,w.alloc (.cells (jZ b v) 26)=Y:=⟨_,rfl⟩;have bW:Below w.heap.size w Y:=hY ▸ (dz _ _).alloc (aJ _) _;have hA:∀W,Below Y.heap.size Y W->fJ W B b v:= λW hW=>hb.keep λd o h=>dP (bW.trans (hW.mono bW.size)) d o (by omega)
 have g0:Y.heap[w.heap.size]?=some (.cells (jZ b v) 26):=by rw [<-hY];exact di _ _
 have sY:Y.heap.size=w.heap.size+1:=by rw [<-hY];simp
 have hC:∀W,Below Y.heap.size Y W->W.heap[w.heap.size]?=some (.cells #[.slice v.ah b.dR.length v.ch,.slice v.ap b.dF.length v.cp,.slice v.jY b.steps.length v.cs,.slice v.ac b.dJ.length v.cc] 26):= λW hW=>(hW.block w.heap.size (by omega)).trans g0
 have HC:=dB hC;have HA:=dB hA;have HY:=dB (aM hY bW);have HBC:=dB hbc;have hlc:b.dJ.length<=v.cc:=hb.lc;clear hY bW hA hC g0 hb h5 hbc;show Calls Lo.prog 9 #[Value.agg (jZ b v)] w _;unfold jZ;go_enter Lo.get Tryz.func9,Tryz.ntmps9;go_wp2;have hy:=HY.out.1;unfold jZ at hy;rw [hy];clear hy;refine (Lo.TG (b:=b) (v:=v) rfl (HA.out Y (dz _ _)) (by omega)).mono ?_
 rintro e w1 ⟨rfl,h1⟩;obtain ⟨f0,f1,f2,f3⟩:=yY (HC.out w1 h1);cases hg:EC b with
 |true=>
  go_wp2;refine (H5.out _).mono ?_
  rintro e w5 ⟨rfl,rfl⟩;go_wp2;go_ret;rfl
 |false=>
  have hs:=Lp hg;clear hg;go_wp2;refine (Lo.PE (b:=b) (v:=v) rfl (HA.out w1 h1) (by have :=h1.size;omega) hs HBC.out).mono ?_
  rintro e w2 ⟨rfl,h2⟩;replace h2:=h1.trans (h2.mono h1.size);clear h1 f0 f1 f2 f3;obtain ⟨f0,f1,f2,f3⟩:=yY (HC.out w2 h2);generalize hcx:fP b=cx
  by_cases z:cx=0
  case neg=>
   clear hcx;go_wp2;refine (H5.out _).mono ?_
   rintro e w5 ⟨rfl,rfl⟩;go_wp2;go_ret;rfl
  subst z;have HX:=dB hcx;clear hcx;go_wp2;refine (Lo.Xw (b:=b) (v:=v) rfl (HA.out w2 h2) (by have :=h2.size;omega) hs HX.out).mono ?_
  rintro e w3 ⟨rfl,h3⟩;replace h3:=h2.trans (h3.mono h2.size);clear h2 f0 f1 f2 f3;obtain ⟨f0,f1,f2,f3⟩:=yY (HC.out w3 h3);have hng:¬(b.dJ.length:Int)<= -1:=by omega
  have hv0:Value.agg #[.slice v.ah b.dR.length v.ch,.slice v.ap b.dF.length v.cp,.slice v.jY b.steps.length v.cs,.slice none 0 0]=eH (l7 b 0) { v with ac:=none,cc:=0 }:=rfl;have s3:=h3.size;obtain ⟨Z,hZ⟩:∃Z,w3.alloc (.cells #[.slice v.ah b.dR.length v.ch,.slice v.ap b.dF.length v.cp,.slice v.jY b.steps.length v.cs,.slice none 0 0] 26)=Z:=⟨_,rfl⟩;have bZ:Below Y.heap.size Y Z:=hZ ▸ h3.alloc s3 _;have sZ:Z.heap.size=w3.heap.size+1:=by rw [<-hZ];simp
  have gZ:Z.heap[w3.heap.size]?=some (.cells #[.slice v.ah b.dR.length v.ch,.slice v.ap b.dF.length v.cp,.slice v.jY b.steps.length v.cs,.slice none 0 0] 26):=by rw [<-hZ];exact di _ _
  have aZ:fJ Z B (l7 b 0) { v with ac:=none,cc:=0 }:=by
   have h:=HA.out Z bZ;exact ⟨h.dR,h.dF,h.steps,h.ins,h.outs, λhn=>absurd hn (Nat.lt_irrefl _),h.lh,h.lp,h.ls,aJ _⟩
  have HZ:=dB (aM hZ (aM bZ (aM gZ (aM aZ hv0))));clear hZ bZ gZ aZ hv0;have hsk:∀k,(l7 b k).small:= λk=>⟨hs.dR,hs.dF,hs.steps,by have :=hs.dJ;show (b.dJ.take k).length<=64;rw [List.length_take];omega,hs.ins,hs.outs⟩
  rcases ND b with ⟨hn,hcase⟩|⟨n,hlt,hn,k1,k2,k3,k4⟩
  ·rw [hn];clear h3 hn;go_wp2;rw [HZ.out.1];refine (Lo.tC (b:=l7 b 0) HZ.out.2.2.2.2 HZ.out.2.2.2.1 (by omega) (hsk 0) (yX HX.out 0)).mono ?_
   rintro e w4 ⟨⟨A0,n0,c0,rfl⟩,h4⟩;replace h4:=HZ.out.2.1.trans (h4.mono (by omega));clear f0 f1 f2 f3;obtain ⟨f0,f1,f2,f3⟩:=yY (HC.out w4 h4);cases q1:iy (l7 b 0) with
   |false=>
    rw [aa (by simp)];go_wp2;refine (Lo.tC (b:=b) (v:=v) rfl (HA.out w4 h4) (by have :=h4.size;omega) hs HX.out).mono ?_
    rintro e w5 ⟨⟨A1,n1,c1,rfl⟩,h5⟩;cases q2:iy b with
    |false=>
     rw [aa (by simp)];go_wp2;refine (H5.out _).mono ?_
     rintro e w7 ⟨rfl,rfl⟩;go_wp2;go_ret;rfl
    |true=>
     rw [aj rfl];go_wp2;refine (H5.out _).mono ?_
     rintro e w7 ⟨rfl,rfl⟩;go_wp2;go_ret;rfl
   |true=>
    have q2:iy b=true:=by
     rcases hcase with h|h
     ·exact h
     ·rw [q1] at h;cases h
    rw [aj rfl];go_wp2;refine (Lo.tC (b:=b) (v:=v) rfl (HA.out w4 h4) (by have :=h4.size;omega) hs HX.out).mono ?_
    rintro e w5 ⟨⟨A1,n1,c1,rfl⟩,h5⟩;rw [q2,aj rfl];go_wp2;refine (H5.out _).mono ?_
    rintro e w7 ⟨rfl,rfl⟩;go_wp2;go_ret;rfl
  ·rw [hn];clear h3 hn;have hn1:¬(n:Int)< -1:=by omega
   have hn2:¬(b.dJ.length:Int)<=(n:Int):=by omega
   have hn3:¬(n:Int)<0:=by omega
   have hnc:n<=v.cc:=by omega
   obtain ⟨m,hm⟩:∃m,n+1=m:=⟨_,rfl⟩;have hmI:(n:Int)+1=(m:Int):=by omega
   have hmc:m<=v.cc:=by omega
   have hml:m<=b.dJ.length:=by omega
   rw [hm] at k2;clear hm;have hw1:wrap64 (m:Int)=(m:Int):=by have :=hs.dJ;unfold wrap64;omega
   have HK:=dB (aM k1 (aM k2 (aM k3 k4)));clear k1 k2 k3 k4;go_wp2;rw [HZ.out.1];refine (Lo.tC (b:=l7 b 0) HZ.out.2.2.2.2 HZ.out.2.2.2.1 (by omega) (hsk 0) (yX HX.out 0)).mono ?_
   rintro e w4 ⟨⟨A0,n0,c0,rfl⟩,h4⟩;have gw4:=(h4.block w3.heap.size (by omega)).trans HZ.out.2.2.1;have z4:w3.heap.size<w4.heap.size:=by have :=h4.size;omega
   replace h4:=HZ.out.2.1.trans (h4.mono (by omega));clear f0 f1 f2 f3;obtain ⟨f0,f1,f2,f3⟩:=yY (HC.out w4 h4);rw [HK.out.2.2.2,aj rfl];have s4:=h4.size;go_wp2;refine (Lo.tC (b:=b) (v:=v) rfl (HA.out w4 h4) (by omega) hs HX.out).mono ?_
   rintro e w5 ⟨⟨A1,n1,c1,rfl⟩,h5⟩;have gw5:=(h5.block w3.heap.size (by omega)).trans gw4;have z5:w3.heap.size<w5.heap.size:=by have :=h5.size;omega
   replace h5:=h4.trans (h5.mono (by omega));clear h4 f0 f1 f2 f3 gw4;have s5:=h5.size;obtain ⟨f0,f1,f2,f3⟩:=yY (HC.out w5 h5);obtain ⟨g0,g1,g2,g3,gf⟩:=Du gw5;rw [HK.out.2.2.1,aa (by simp)];obtain ⟨X,hX⟩:∃X,w5.setCell ⟨w3.heap.size,3,none⟩ (.slice v.ac n v.cc)=X:=⟨_,rfl⟩;have gX:X.heap[w3.heap.size]?=some (.cells #[.slice v.ah b.dR.length v.ch,.slice v.ap b.dF.length v.cp,.slice v.jY b.steps.length v.cs,.slice v.ac n v.cc] 26):=hX ▸ Et gw5
   have bX:Below Y.heap.size Y X:=hX ▸ h5.setCell (p:=⟨w3.heap.size,3,none⟩) (by show Y.heap.size<=w3.heap.size;omega) _;have sX:X.heap.size=w5.heap.size:=by rw [<-hX];simp [World.setCell]
   have vX:Value.agg #[.slice v.ah b.dR.length v.ch,.slice v.ap b.dF.length v.cp,.slice v.jY b.steps.length v.cs,.slice v.ac n v.cc]=eH (l7 b n) v:=by
    unfold eH l7;rw [List.length_take,Nat.min_eq_left (by omega)]
   obtain ⟨x0,x1,x2,x3, -⟩:=Du gX;rw [<-hX] at x0 x1 x2 x3;have Xx:=dB (aM hX (aM gX (aM bX vX)));clear hX gX bX vX gw5 h5;go_wp2;rw [Xx.out.1];clear x0 x1 x2 x3 g0 g1 g2 g3 gf f0 f1 f2 f3;refine (Lo.tC (b:=l7 b n) Xx.out.2.2.2 (O5 (HA.out X Xx.out.2.2.1) n (by omega)) (by omega) (hsk n) (yX HX.out n)).mono ?_
   rintro e w6 ⟨⟨A2,n2,c2,rfl⟩,h6⟩;have gw6:=(h6.block w3.heap.size (by omega)).trans Xx.out.2.1;have z6:w3.heap.size<w6.heap.size:=by have :=h6.size;omega
   replace h6:=Xx.out.2.2.1.trans (h6.mono (by omega));have s6:=h6.size;clear Xx hnc s5 sX;rw [HK.out.1,aj rfl];obtain ⟨f0,f1,f2,f3⟩:=yY (HC.out w6 h6);obtain ⟨g0,g1,g2,g3,gf⟩:=Du gw6;obtain ⟨X2,hX⟩:∃X2,w6.setCell ⟨w3.heap.size,3,none⟩ (.slice v.ac m v.cc)=X2:=⟨_,rfl⟩;have gX:X2.heap[w3.heap.size]?=some (.cells #[.slice v.ah b.dR.length v.ch,.slice v.ap b.dF.length v.cp,.slice v.jY b.steps.length v.cs,.slice v.ac m v.cc] 26):=hX ▸ Et gw6
   have bX:Below Y.heap.size Y X2:=hX ▸ h6.setCell (p:=⟨w3.heap.size,3,none⟩) (by show Y.heap.size<=w3.heap.size;omega) _
   have vX:Value.agg #[.slice v.ah b.dR.length v.ch,.slice v.ap b.dF.length v.cp,.slice v.jY b.steps.length v.cs,.slice v.ac m v.cc]=eH (l7 b m) v:=by
    unfold eH l7;rw [List.length_take,Nat.min_eq_left (by omega)]
   obtain ⟨x0,x1,x2,x3, -⟩:=Du gX;rw [<-hX] at x0 x1 x2 x3;have Xx:=dB (aM hX (aM gX (aM bX vX)));clear hX gX bX vX gw6 h6;go_wp2;rw [Xx.out.1];clear x0 x1 x2 x3 g0 g1 g2 g3 gf f0 f1 f2 f3;refine (Lo.tC (b:=l7 b m) Xx.out.2.2.2 (O5 (HA.out X2 Xx.out.2.2.1) m (by omega)) (by have :=Xx.out.2.2.1.size;omega) (hsk m) (yX HX.out m)).mono ?_
   rintro e w7 ⟨⟨A3,n3,c3,rfl⟩,h7⟩;rw [HK.out.2.1,aa (by simp)];clear h7;go_wp2;refine (H5.out _).mono ?_
   rintro e w8 ⟨rfl,rfl⟩;go_wp2;go_ret;rfl
end
end Go.Proofs
