/- Part 22. -/
import Derived.Test.YtmhmpoeoapkbaaaGreatH21
set_option maxRecDepth 100000
set_option maxHeartbeats 0
set_option linter.all false
namespace Go.Proofs
open Go Go.RowKit Go.Maps
section
def gT(p:Int):List (List Int)->Nat->Int
 | [],_=> -1
 |l::r,k=>if l.contains p=true then(k:Int)else gT p r (k+1)
theorem wF(p:Int)(L:List (List Int))(k:Nat)(h:k<L.length):gT p (L.drop k) k=if L[k].contains p=true then(k:Int)else gT p (L.drop (k+1)) (k+1):=by
 rw[aV h];rfl
theorem kP(p:Int):∀(L:List (List Int))(k:Nat),(L.any λl=>l.contains p)=false->gT p L k= -1
 | [],k,_=>rfl
 |l::r,k,h=>by
  rw[List.any_cons,Bool.or_eq_false_iff]at h;unfold gT;rw[aa (by rw[h.1];simp),kP p r _ h.2]
theorem kQ(p:Int):∀(L:List (List Int))(k:Nat),(L.any λl=>l.contains p)=true->∃n:Nat,gT p L k=(n:Int)
 | [],k,h=>by cases h
 |l::r,k,h=>by
  unfold gT
  by_cases hl:l.contains p=true
  .rw[aj hl];exact⟨k,rfl⟩
  .rw[aa hl];rw[List.any_cons,show l.contains p=false by simpa using hl,Bool.false_or]at h;exact kQ p r _ h
variable [Lo.St]
theorem Lo.Jg{w:World}{B n:Nat}{A:Option Addr}{l:List ByteArray}{c:Nat}{s:ByteArray}(hn:n=l.length)(h1:F8 w B A l)(hl:l.length<=64):
 Calls Lo.prog 43 #[.slice A n c,.string s] w λe w'=>e=.returned (.int .i64 (yP s l 0))∧w'=w:=by
 subst hn;obtain⟨U,U2,U3,U4,U5,U6⟩:=Lo.facts;go_enter Lo.get Tryz.func43,Tryz.ntmps43;go_wp2
 go_loopw [5] (λi wr=>∃k:Nat,k<=l.length∧i=.int .i64 (k:Int)∧yP s (l.drop k) k=yP s l 0∧wr=w) (λi _=>l.length-(intOf i).toNat)
 case atStart=>exact⟨0,bg _,rfl,rfl,rfl⟩
 case round=>
  obtain⟨k,hk,rfl,hx,rfl⟩:=hrel
  by_cases hlt:k<l.length
  .have hlt':(k:Int)<(l.length:Int):=by omega
   obtain⟨bb,off,rfl,hbb,hc⟩:=h1 (by omega);have r1:=FM hc hlt;have hd:=EN s l k hlt;rw[hx]at hd;clear hc h1 hx;generalize l[k]=x at r1 hd
   by_cases hq:s.toList=x.toList
   .rw[aj hq]at hd;have d:(x.toList==s.toList)=true:=by simpa using hq.symm
    have HD:=dw hd;clear hd hq;go_wp2;go_ret;exact⟨by rw[HD.out];rfl,by simp⟩
   .rw[aa hq]at hd;have d:(x.toList==s.toList)=false:=by simpa usingλh=>hq (Eq.symm h)
    have HD:=dw hd;clear hd hq;go_wp2;go_roundw
    case rel=>exact⟨k+1,by omega,by go_num,HD.out.symm,by simp⟩
    case measure=>simp[intOf];omega
  .obtain rfl:k=l.length:=by omega
   have hx':(-1:Int)=yP s l 0:=by rw[<-hx,aF];rfl
   have HX:=dw hx';clear hx hx';go_wp2;go_ret;exact⟨by rw[<-HX.out];rfl,by simp⟩
theorem Lo.nH{w:World}{B n:Nat}{A:Option Addr}{l:List Int}{c:Nat}{p:Int}(hn:n=l.length)(h1:xJ w B A l)(hl:l.length<=64):
 Calls Lo.prog 45 #[.slice A n c,.int .i64 p] w λe w'=>e=.returned (.bool (l.contains p))∧w'=w:=by
 subst hn;obtain⟨U,U2,U3,U4,U5,U6⟩:=Lo.facts;go_enter Lo.get Tryz.func45,Tryz.ntmps45;go_wp2
 go_loopw [5] (λi wr=>∃k:Nat,k<=l.length∧i=.int .i64 (k:Int)∧(l.drop k).contains p=l.contains p∧wr=w) (λi _=>l.length-(intOf i).toNat)
 case atStart=>exact⟨0,bg _,rfl,rfl,rfl⟩
 case round=>
  obtain⟨k,hk,rfl,hx,rfl⟩:=hrel
  by_cases hlt:k<l.length
  .have hlt':(k:Int)<(l.length:Int):=by omega
   obtain⟨bb,off,rfl,hbb,hc⟩:=h1 (by omega);have r1:=PT hc hlt;rw[aV hlt,List.contains_cons]at hx;clear hc h1;generalize l[k]=x at r1 hx
   by_cases hq:x=p
   .subst hq;rw[beq_self_eq_true,Bool.true_or]at hx;have HD:=dw hx;clear hx;go_wp2;go_ret;exact⟨by rw[<-HD.out];rfl,by simp⟩
   .have hp:(p==x)=false:=by simpa usingλh=>hq (Eq.symm h)
    rw[hp,Bool.false_or]at hx;have HD:=dw hx;clear hx hp;go_wp2;go_roundw
    case rel=>exact⟨k+1,by omega,by go_num,HD.out,by simp⟩
    case measure=>simp[intOf];omega
  .obtain rfl:k=l.length:=by omega
   have hx':l.contains p=false:=by rw[<-hx,aF];rfl
   have HX:=dw hx';clear hx hx';go_wp2;go_ret;exact⟨by rw[HX.out];rfl,by simp⟩
theorem Lo.Di{w:World}{B:Nat}{A:Option Addr}{l:List ByteArray}{c most:Nat}(h1:F8 w B A l)(hl:l.length<=64)(hcap:l.length<=c)(hB:B<=w.heap.size)(hm:most<=64):
 Calls Lo.prog 14 #[.slice A l.length c,.int .i64 (most:Int)] w λe w'=>e=.returned (.int .i64 (dP l most))∧Below w.heap.size w w':=by
 obtain⟨U,U2,U3,U4,U5,U6⟩:=Lo.facts;have C:=Lo.call Tryz.func42;have C2:=Lo.call Tryz.func43
 by_cases hgt:most<l.length
 .have K3:(most:Int)<(l.length:Int):=by omega
  have e:dP l most=2:=by unfold dP;rw[aj hgt]
  rw[e];go_enter Lo.get Tryz.func14,Tryz.ntmps14
  go_wp2_with fail
  go_ret;exact⟨rfl,di _ _⟩
 .have K3:¬(most:Int)<(l.length:Int):=by omega
  have e:dP l most=qP l []:=by unfold dP;rw[aa hgt]
  rw[e];clear e;generalize hF:qP l []=F;have HF:=dw hF;clear hF;go_enter Lo.get Tryz.func14,Tryz.ntmps14
  go_wp2_with fail
  go_loopw [5] (λi wr=>∃k:Nat,k<=l.length∧i=.int .i64 (k:Int)∧qP (l.drop k) (l.take k)=F∧Below w.heap.size w wr) (λi _=>l.length-(intOf i).toNat)
  case atStart=>exact⟨0,bg _,rfl,by rw[List.drop_zero,List.take_zero];exact HF.out,di _ _⟩
  case round=>
   obtain⟨k,hk,rfl,hx,hb⟩:=hrel
   by_cases hlt:k<l.length
   .have hlt':(k:Int)<(l.length:Int):=by omega
    have hkc:k<=c:=by omega
    have h1k:F8 wr B A l:=h1.keep λb o h=>dH hb b o (by omega)
    obtain⟨bb,off,rfl,hbb,hc⟩:=h1k (by omega);have r1:=FM hc hlt;have ht:F8 wr B (some ⟨bb,off,none⟩) (l.take k):=F8.take (λ_=>⟨bb,off,rfl,hbb,hc⟩) k (by omega);have hd:=AU l k hlt;rw[hx]at hd;have htl:k=(l.take k).length:=by rw[List.length_take];omega
    generalize l[k]=s at r1 hd;have hi:∀x:World,Below w.heap.size w x->wr.heap.size<=x.heap.size->True:= λ_ _ _=>trivial
    have r2:∀x:World,Below wr.heap.size wr x->x.cell? ⟨bb,off+k,none⟩=some (.string s):= λx hb2=>(dH hb2 _ _ (by have :=hb.size;omega)).trans r1
    have R2:=dw r2;have HT:=dw ht;have HD:=dw hd;have HB:=dw hb;have HTL:=dw htl;have hge:=MJ s (l.take k) 0;generalize hix:yP s (l.take k) 0=ix at hge;have HI:=dw hix;clear hix;clear ht hd hb hc hx h1k h1 htl r2 hi;cases hnm:gy s with
    |false=>
     have HN:=dw hnm;clear hnm
     go_wp2_with(go_at_call 42;refine(Lo.zP _ _).mono ?_;rintro e w1⟨rfl,hb1⟩;rw[HN.out])
     go_ret;exact⟨by rw[HD.out,aj HN.out];rfl,HB.out.trans (hb1.mono HB.out.size)⟩
    |true=>
     have HN:=dw hnm;clear hnm;cases RX:F9 s (l.take k)with
     |true=>
      rw[RX]at hge;have hge':0<=ix:=by simpa using hge
      have HH:=dw RX;clear RX hge
      go_wp2_with(go_at_call 42;refine(Lo.zP _ _).mono ?_;rintro e w1⟨rfl,hb1⟩;rw[HN.out];have r3:=R2.out w1 hb1;have hs1:=hb1.size;have hb2:=hb1.drew)
      go_still_tail 7,Lo.mixed
      change wpList _ _ _ _ _ w1.drew
      go_wp2_with(go_at_call 43;refine(Lo.Jg HTL.out (HT.out.keep λb o h=>dH hb2 b o (by have :=HB.out.size;omega)) (by rw[List.length_take];omega)).mono ?_;rintro e w2⟨rfl,rfl⟩;rw[HI.out])
      go_ret;exact⟨by rw[HD.out,aa (by rw[HN.out];simp),aj HH.out];rfl,HB.out.trans (hb2.mono HB.out.size)⟩
     |false=>
      rw[RX]at hge;have hge':¬0<=ix:=by simpa using hge
      have HH:=dw RX;clear RX hge
      go_wp2_with(go_at_call 42;refine(Lo.zP _ _).mono ?_;rintro e w1⟨rfl,hb1⟩;rw[HN.out];have r3:=R2.out w1 hb1;have hs1:=hb1.size;have hb2:=hb1.drew)
      go_still_tail 7,Lo.mixed
      change wpList _ _ _ _ _ w1.drew
      go_wp2_with(go_at_call 43;refine(Lo.Jg HTL.out (HT.out.keep λb o h=>dH hb2 b o (by have :=HB.out.size;omega)) (by rw[List.length_take];omega)).mono ?_;rintro e w2⟨rfl,rfl⟩;rw[HI.out])
      go_roundw
      case rel=>exact⟨k+1,by omega,by go_num,by rw[HD.out,aa (by rw[HN.out];simp),aa (by rw[HH.out];simp)],HB.out.trans (hb2.mono HB.out.size)⟩
      case measure=>simp[intOf];omega
   .obtain rfl:k=l.length:=by omega
    rw[aF]at hx;have HX:=dw hx;clear hx
    go_wp2_with fail
    go_ret;exact⟨by rw[<-HX.out];rfl,hb⟩
end
section
variable [Lo.St]
theorem Lo.rU{w:World}{B:Nat}{b:dO}{v:gJ}{x:Value}{n:Nat}{p:Int}(hx:x=dY b v)(hb:fC w B b v)(hB:B<=w.heap.size)(hg:b.small)(hn:n<=b.steps.length):
 Calls Lo.prog 16 #[x,.int .i64 p,.int .i64 (n:Int)] w λe w'=>e=.returned (.int .i64 (gT p ((b.steps.take n).map dW.outs) 0))∧Below w.heap.size w w':=by
 obtain⟨U,U2,U3,U4,U5,U6⟩:=Lo.facts;have C:=Lo.call Tryz.func45;subst hx;obtain⟨L,hL⟩:∃L,(b.steps.take n).map dW.outs=L:=⟨_,rfl⟩;have hLl:L.length=n:=by rw[<-hL];simp;omega
 have hLi:∀k(h:k<n),L[k]'(by omega)=(b.steps[k]'(by omega)).outs:= λk h=>by subst hL;simp
 rw[hL];obtain⟨X,hX⟩:∃X,w.alloc (.cells (lN b v) 26)=X:=⟨_,rfl⟩;have hb1:fC X B b v:=hX ▸ hb.keep λb o h=>dh _ _ _ (by show b<w.heap.size;omega)
 have h2:X.cell? ⟨w.heap.size,2,none⟩=some (.slice v.iT b.steps.length v.cs):=by rw[<-hX,cO _ _ _ _ rfl];rfl
 have hw:Below w.heap.size w X:=hX ▸ (di _ _).alloc (aJ _) _;have hs:=hg.steps;have hgo:=hg.outs;have HB:=dw (aM hb1 (aM h2 (aM hLi (aM hw (aM hX hgo)))));clear hb hb1 h2 hLi hL hw hX hgo;show Calls Lo.prog 16 #[Value.agg (lN b v),.int .i64 p,.int .i64 (n:Int)] w _;unfold lN;go_enter Lo.get Tryz.func16,Tryz.ntmps16;go_wp2;change Code.wp _ _ _ _ (w.alloc (.cells (lN b v) 26));rw[HB.out.2.2.2.2.1]
 go_loopw [7] (λi wr=>∃k:Nat,k<=n∧i=.int .i64 (k:Int)∧gT p (L.drop k) k=gT p L 0∧wr=X) (λi _=>n-(intOf i).toNat)
 case atStart=>exact⟨0,bg _,rfl,rfl,rfl⟩
 case round=>
  obtain⟨k,hk,rfl,hx,rfl⟩:=hrel
  by_cases hlt:k<n
  .have hlt':(k:Int)<(n:Int):=by omega
   have hks:k<b.steps.length:=by omega
   have ao8:(k:Int)<(b.steps.length:Int):=by omega
   obtain⟨bb,off,e,hbb,hc⟩:=HB.out.1.steps (by omega);have c2:=HB.out.2.1;rw[e]at c2;have r:=(sZ hc hks).2.2.1;have ri:=HB.out.1.outs k _ (aN hks);have hl:=HB.out.2.2.2.2.2 _ (aX hks);have hd:=wF p L k (by omega);rw[hx,HB.out.2.2.1 k hlt]at hd;clear hc hx e;generalize b.steps[k].outs=l at r ri hl hd;generalize(v.sv k).a2=a0 at r ri;generalize(v.sv k).c2=c0 at r;have HR:=dw (aM ri hl);clear ri hl;cases hct:l.contains p with
   |true=>
    rw[aj hct]at hd;have HD:=dw (aM hct hd);clear hct hd
    go_wp2_with(go_at_call 45;refine(Lo.nH rfl HR.out.1 HR.out.2).mono ?_;rintro e w1⟨rfl,rfl⟩;rw[HD.out.1])
    go_ret;exact⟨by rw[HD.out.2];rfl,HB.out.2.2.2.1⟩
   |false=>
    rw[aa (by rw[hct];simp)]at hd;have HD:=dw (aM hct hd);clear hct hd
    go_wp2_with(go_at_call 45;refine(Lo.nH rfl HR.out.1 HR.out.2).mono ?_;rintro e w1⟨rfl,rfl⟩;rw[HD.out.1])
    go_roundw
    case rel=>exact⟨k+1,by omega,by go_num,HD.out.2.symm,by simp⟩
    case measure=>simp[intOf];omega
  .obtain rfl:k=n:=by omega
   have hx':(-1:Int)=gT p L 0:=by rw[<-hx, <-hLl,aF];rfl
   have HX:=dw hx';clear hx hx';go_wp2;go_ret;exact⟨by rw[<-HX.out];rfl,HB.out.2.2.2.1⟩
theorem Lo.Dj{w:World}{B:Nat}{b:dO}{v:gJ}{x:Value}{n:Nat}{p:Int}(hx:x=dY b v)(hb:fC w B b v)(hB:B<=w.heap.size)(hg:b.small)(hn:n<=b.steps.length):
 Calls Lo.prog 44 #[x,.int .i64 p,.int .i64 (n:Int)] w λe w'=>e=.returned (.int .i64 (gT p ((b.steps.take n).map dW.ins) 0))∧Below w.heap.size w w':=by
 obtain⟨U,U2,U3,U4,U5,U6⟩:=Lo.facts;have C:=Lo.call Tryz.func45;subst hx;obtain⟨L,hL⟩:∃L,(b.steps.take n).map dW.ins=L:=⟨_,rfl⟩;have hLl:L.length=n:=by rw[<-hL];simp;omega
 have hLi:∀k(h:k<n),L[k]'(by omega)=(b.steps[k]'(by omega)).ins:= λk h=>by subst hL;simp
 rw[hL];obtain⟨X,hX⟩:∃X,w.alloc (.cells (lN b v) 26)=X:=⟨_,rfl⟩;have hb1:fC X B b v:=hX ▸ hb.keep λb o h=>dh _ _ _ (by show b<w.heap.size;omega)
 have h2:X.cell? ⟨w.heap.size,2,none⟩=some (.slice v.iT b.steps.length v.cs):=by rw[<-hX,cO _ _ _ _ rfl];rfl
 have hw:Below w.heap.size w X:=hX ▸ (di _ _).alloc (aJ _) _;have hs:=hg.steps;have hgo:=hg.ins;have HB:=dw (aM hb1 (aM h2 (aM hLi (aM hw (aM hX hgo)))));clear hb hb1 h2 hLi hL hw hX hgo;show Calls Lo.prog 44 #[Value.agg (lN b v),.int .i64 p,.int .i64 (n:Int)] w _;unfold lN;go_enter Lo.get Tryz.func44,Tryz.ntmps44;go_wp2;change Code.wp _ _ _ _ (w.alloc (.cells (lN b v) 26));rw[HB.out.2.2.2.2.1]
 go_loopw [7] (λi wr=>∃k:Nat,k<=n∧i=.int .i64 (k:Int)∧gT p (L.drop k) k=gT p L 0∧wr=X) (λi _=>n-(intOf i).toNat)
 case atStart=>exact⟨0,bg _,rfl,rfl,rfl⟩
 case round=>
  obtain⟨k,hk,rfl,hx,rfl⟩:=hrel
  by_cases hlt:k<n
  .have hlt':(k:Int)<(n:Int):=by omega
   have hks:k<b.steps.length:=by omega
   have ao8:(k:Int)<(b.steps.length:Int):=by omega
   obtain⟨bb,off,e,hbb,hc⟩:=HB.out.1.steps (by omega);have c2:=HB.out.2.1;rw[e]at c2;have r:=(sZ hc hks).2.1;have ri:=HB.out.1.ins k _ (aN hks);have hl:=HB.out.2.2.2.2.2 _ (aX hks);have hd:=wF p L k (by omega);rw[hx,HB.out.2.2.1 k hlt]at hd;clear hc hx e;generalize b.steps[k].ins=l at r ri hl hd;generalize(v.sv k).a1=a0 at r ri;generalize(v.sv k).c1=c0 at r;have HR:=dw (aM ri hl);clear ri hl;cases hct:l.contains p with
   |true=>
    rw[aj hct]at hd;have HD:=dw (aM hct hd);clear hct hd
    go_wp2_with(go_at_call 45;refine(Lo.nH rfl HR.out.1 HR.out.2).mono ?_;rintro e w1⟨rfl,rfl⟩;rw[HD.out.1])
    go_ret;exact⟨by rw[HD.out.2];rfl,HB.out.2.2.2.1⟩
   |false=>
    rw[aa (by rw[hct];simp)]at hd;have HD:=dw (aM hct hd);clear hct hd
    go_wp2_with(go_at_call 45;refine(Lo.nH rfl HR.out.1 HR.out.2).mono ?_;rintro e w1⟨rfl,rfl⟩;rw[HD.out.1])
    go_roundw
    case rel=>exact⟨k+1,by omega,by go_num,HD.out.2.symm,by simp⟩
    case measure=>simp[intOf];omega
  .obtain rfl:k=n:=by omega
   have hx':(-1:Int)=gT p L 0:=by rw[<-hx, <-hLl,aF];rfl
   have HX:=dw hx';clear hx hx';go_wp2;go_ret;exact⟨by rw[<-HX.out];rfl,HB.out.2.2.2.1⟩
theorem cell_of{X:World}{b:Nat}{c:Array Value}{e:TypeId}{fr:Nat×Nat}(h:X.heap[b]?=some (.cells c e fr))(o:Nat){v:Value}(hv:c[o]?=some v:=by rfl):X.cell? ⟨b,o,none⟩=some v:=by
 unfold World.cell?;simp only[h];rw[hv];rfl
theorem al8{W:World}{p:Nat}{x y z u:Value}{t:TypeId}{fr:Nat×Nat}(h:W.heap[p]?=some (.cells #[x,y,z,u] t fr)):W.cell? ⟨p,0,none⟩=some x∧W.cell? ⟨p,1,none⟩=some y∧W.cell? ⟨p,2,none⟩=some z∧W.cell? ⟨p,3,none⟩=some u:=⟨cell_of h 0,cell_of h 1,cell_of h 2,cell_of h 3⟩
theorem bx9{w:World}{B:Nat}{b:dO}{v:gJ}(hb:fC w B b v)(hB:B<=w.heap.size):∃X,w.alloc (.cells (lN b v) 26)=X∧X.heap.size=w.heap.size+1∧Below w.heap.size w X∧(∀W,Below X.heap.size X W->fC W B b v)∧
 ∀W,Below X.heap.size X W->W.heap[w.heap.size]?=some (.cells #[.slice v.ah b.dJ.length v.ch,.slice v.ap b.dz.length v.cp,.slice v.iT b.steps.length v.cs,.slice v.ac b.dA.length v.cc] 26):=by
 have s:=World.size_alloc w (.cells (lN b v) 26);have bX:Below w.heap.size w (w.alloc (.cells (lN b v) 26)):=(Below.refl _ _).alloc (Nat.le_refl _) _;exact⟨_,rfl,s,bX, λW hW=>hb.keep λd o h=>dH (bX.trans (hW.mono bX.size)) d o (by omega), λW hW=>(hW.block w.heap.size (by omega)).trans (World.alloc_heap_new _ _)⟩
def jR(w:World)(A:Option Addr)(n:Nat)(o:List Int):Prop:=Rd w w.heap.size 2 A n λi j=>.int .i64 ((o[2*i+j]?).getD 0)
theorem jR.below{w w':World}{A:Option Addr}{n:Nat}{o:List Int}(h:jR w A n o)(hb:Below w.heap.size w w'):jR w' A n o:= λhn=>by
 obtain⟨b,off,e,h1,h2⟩:=h hn;exact⟨b,off,e,aK h1 hb.size, λi j hi hj=>(dH hb _ _ h1).trans (h2 i j hi hj)⟩
theorem uU(o:List Int){n i j:Nat}(hl:o.length=2*n)(hi:i<n)(hj:j<2):(gW o)[i*2+j]?=some (.int .i64 ((o[2*i+j]?).getD 0)):=by
 rw[show i*2+j=2*i+j from by omega];exact sW o (by omega)
theorem Lo.vJ{w:World}{B:Nat}{b:dO}{v:gJ}{x:Value}(hx:x=dY b v)(hb:fC w B b v)(hB:B<=w.heap.size)(hg:b.good)(hand:Int)(hh: -1<=hand∧hand<=64)(hho:gN (fA b hand) (dZ b hand)=true):
 Calls Lo.prog 26 #[x,.int .i64 hand] w λe w'=>∃A cap,e=.returned (.tuple #[.slice A (fA b hand).length cap,.int .i64 0])∧(fA b hand).length<=cap∧(∀m,m<=(fA b hand).length->jR w' A m (mG (fA b hand) (dZ b hand)))∧Below w.heap.size w w':=by
 refine(Lo.zR hx hb hB hg hand hh).mono λe w' h=>?_
 unfold qC at h;rw[aj hho]at h;obtain⟨v,rfl,hown,_,hbe⟩:=h;obtain⟨A,cap,rfl,hc,hr⟩:=ownsRow.rd (B:=w'.heap.size) (f:= λi j=>.int .i64 (((mG (fA b hand) (dZ b hand))[2*i+j]?).getD 0)) hown (λi j hi hj=>uU _ (pV _ _) hi hj);exact⟨A,cap,rfl,hc, λm hm=>hr m hm (aJ _),hbe⟩
theorem Lo.K7{w:World}{B:Nat}{b:dO}{v:gJ}{x:Value}(hx:x=dY b v)(hb:fC w B b v)(hB:B<=w.heap.size)(hg:b.good)(hand:Int)(hh: -1<=hand∧hand<=64)(hho:gN (fA b hand) (dZ b hand)=true):
 Calls Lo.prog 26 #[x,.int .i64 hand] w λe w'=>∃A cap,e=.returned (.tuple #[.slice A (fA b hand).length cap,.int .i64 0])∧(fA b hand).length<=cap∧(∀m,m<=(fA b hand).length->jR w' A m (mG (fA b hand) (dZ b hand)))∧Below w.heap.size w w'∧∀m c,Par.dU w' (.slice A m c):=by
 refine(Lo.zR hx hb hB hg hand hh).mono λe w' h=>?_
 unfold qC at h;rw[aj hho]at h;obtain⟨v,rfl,hown,hpl,hbe⟩:=h;obtain⟨A,cap,rfl,hc,hr⟩:=ownsRow.rd (B:=w'.heap.size) (f:= λi j=>.int .i64 (((mG (fA b hand) (dZ b hand))[2*i+j]?).getD 0)) hown (λi j hi hj=>uU _ (pV _ _) hi hj);exact⟨A,cap,rfl,hc, λm hm=>hr m hm (aJ _),hbe, λ_ _ g hg=>hpl g (by cases A<;>exact hg)⟩
theorem Lo.Jh{w:World}{B:Nat}{b:dO}{v:gJ}{x:Value}(hx:x=dY b v)(hb:fC w B b v)(hB:B<=w.heap.size)(hg:b.good)(hand:Int)(hh: -1<=hand∧hand<=64)(hho:gN (fA b hand) (dZ b hand)=false):
 Calls Lo.prog 26 #[x,.int .i64 hand] w λe w'=>e=.returned (.tuple #[.slice none 0 0,.int .i64 9])∧Below w.heap.size w w':=by
 refine(Lo.zR hx hb hB hg hand hh).mono λe w' h=>?_
 unfold qC at h;rw[aa (by rw[hho];simp)]at h;exact h
theorem Lo.gV{w:World}{B:Nat}{b:dO}{v:gJ}{x:Value}(hx:x=dY b v)(hb:fC w B b v)(hB:B<=w.heap.size)(hg:b.small):
 Calls Lo.prog 25 #[x] w λe w'=>e=.returned (.int .i64 (fG b))∧Below w.heap.size w w':=hx ▸ Lo.wE hb hB hg
abbrev qR(b:dO):Bool:=gN (fA b (-1)) (dZ b (-1))
abbrev p8(b:dO):List Int:=mG (fA b (-1)) (dZ b (-1))
def p9(w:World)(b:dO)(e:Ending)(w':World):Prop:=
 Below w.heap.size w w'∧
 if fG b≠0 then e=.returned (.tuple #[.slice none 0 0,.int .i64 (fG b)])
 else if qR b=true then∃A cap,e=.returned (.tuple #[.slice A b.dz.length cap,.int .i64 0])∧jR w' A b.dz.length (p8 b)∧Par.dU w' (.slice A b.dz.length cap)
 else e=.returned (.tuple #[.slice none 0 0,.int .i64 9])
theorem Lo.K8{w:World}{B:Nat}{b:dO}{v:gJ}{x:Value}(hx:x=dY b v)(hb:fC w B b v)(hB:B<=w.heap.size)(hs:b.small):
 Calls Lo.prog 9 #[x] w (p9 w b):=by
 obtain⟨U,U2,U3,U4,U5,U6⟩:=Lo.facts;have C:=Lo.call Tryz.func25;have C2:=Lo.call Tryz.func26;subst hx;obtain⟨X,hX,sX,bX,hA,hC⟩:=bx9 hb hB;have HC:=Lib.hid hC;have HA:=Lib.hid hA;have HX:=Lib.hid (And.intro hX bX);clear hX bX hA hC hb;show Calls Lo.prog 9 #[Value.agg (lN b v)] w _;unfold lN;have hy:=HX.out.1;unfold lN at hy;obtain⟨f0,f1,f2,f3⟩:=al8 (HC.out X (Below.refl _ _));go_enter Lo.get Tryz.func9,Tryz.ntmps9;go_wp2;refine(Lo.gV (b:=b) (v:=v) rfl (HA.out X (Below.refl _ _)) (by omega) hs).mono ?_
 rintro e w1⟨rfl,h1⟩;obtain⟨g0,g1,g2,g3⟩:=al8 (HC.out w1 h1);have s1:=h1.size;have H1:=Lib.hid h1;clear h1 hy f0 f1 f2 f3;unfold p9
 by_cases hcf:fG b=0
 .have hg:=lM hs hcf;have hw1:=yR b (-1);rw[if_neg (by omega)]at hw1;have hwl:b.dz.length<=(fA b (-1)).length:=by omega
  have HF:=Lib.hid hcf;rw[hcf];clear hcf;cases hho:qR b with
  |false=>
   have HH:=Lib.hid hho;clear hho;go_wp2;refine(Lo.Jh (b:=b) (v:=v) rfl (HA.out w1 H1.out) (by omega) hg (-1) (by omega) HH.out).mono ?_
   rintro e w2⟨rfl,hb2⟩;go_wp2
   go_ret2
   exact⟨HX.out.2.trans ((H1.out.trans (hb2.mono s1)).mono (by omega)),by rw[if_neg (by rw[HF.out];simp),if_neg (by rw[HH.out];simp)];rfl⟩
  |true=>
   have HH:=Lib.hid hho;clear hho;go_wp2;refine(Lo.K7 (b:=b) (v:=v) rfl (HA.out w1 H1.out) (by omega) hg (-1) (by omega) HH.out).mono ?_
   rintro e w2⟨A,cap,rfl,hcap,hr,hb2,hpl⟩;have hpc:b.dz.length<=cap:=Nat.le_trans hwl hcap;have k1:=(dH hb2 _ _ (by omega)).trans g1;have HR:=Lib.hid (And.intro (hr _ hwl) (And.intro hpl hb2));clear hr hpl hb2;go_wp2
   go_ret2
   exact⟨HX.out.2.trans ((H1.out.trans (HR.out.2.2.mono s1)).mono (by omega)),by rw[if_neg (by rw[HF.out];simp),if_pos HH.out];exact⟨_,_,rfl,HR.out.1,HR.out.2.1 _ _⟩⟩
 .obtain⟨cx,hcx⟩:∃cx,fG b=cx:=⟨_,rfl⟩;rw[hcx];rw[hcx]at hcf;have HF:=Lib.hid hcx;clear hcx;go_wp2
  go_ret2
  exact⟨HX.out.2.trans (H1.out.mono (by omega)),by rw[if_pos (by rw[HF.out];exact hcf),HF.out];rfl⟩
def qU(o:List Int)(np:Nat):Nat->List Int
 |0=>[]
 |k+1=>qU o np k++ [(o[2*(np+2*k+1)]?).getD 0,(o[2*(np+2*k+1)+1]?).getD 0]
theorem Dk(o:List Int)(np:Nat):∀k,(qU o np k).length=2*k
 |0=>rfl
 |k+1=>by unfold qU;rw[List.length_append,Dk o np k];simp;omega
abbrev yY(b:dO):List Int:=qU (p8 b) b.dz.length b.steps.length
def qa(w:World)(b:dO)(e:Ending)(w':World):Prop:=
 Below w.heap.size w w'∧
 if fG b≠0 then e=.returned (.tuple #[.slice none 0 0,.int .i64 (fG b)])
 else if qR b=true then∃A cap,e=.returned (.tuple #[.slice A b.steps.length cap,.int .i64 0])∧jR w' A b.steps.length (yY b)∧Par.dU w' (.slice A b.steps.length cap)
 else e=.returned (.tuple #[.slice none 0 0,.int .i64 9])
theorem Lo.K9{w:World}{B:Nat}{b:dO}{v:gJ}{x:Value}(hx:x=dY b v)(hb:fC w B b v)(hB:B<=w.heap.size)(hs:b.small):
 Calls Lo.prog 10 #[x] w (qa w b):=by
 obtain⟨U,U2,U3,U4,U5,U6⟩:=Lo.facts;have C:=Lo.call Tryz.func25;have C2:=Lo.call Tryz.func26;obtain⟨i0,hi,hz0,hz1,hz2⟩:=info_parts Lo.Rx;subst hx;obtain⟨X,hX,sX,bX,hA,hC⟩:=bx9 hb hB;have HC:=Lib.hid hC;have HA:=Lib.hid hA;have HX:=Lib.hid (And.intro hX bX);clear hX bX hA hC hb;show Calls Lo.prog 10 #[Value.agg (lN b v)] w _;unfold lN;have hy:=HX.out.1;unfold lN at hy;obtain⟨f0,f1,f2,f3⟩:=al8 (HC.out X (Below.refl _ _));go_enter Lo.get Tryz.func10,Tryz.ntmps10;go_wp2;refine(Lo.gV (b:=b) (v:=v) rfl (HA.out X (Below.refl _ _)) (by omega) hs).mono ?_
 rintro e w1⟨rfl,h1⟩;obtain⟨g0,g1,g2,g3⟩:=al8 (HC.out w1 h1);have s1:=h1.size;have H1:=Lib.hid h1;clear h1 hy f0 f1 f2 f3;unfold qa
 by_cases hcf:fG b=0
 .have hg:=lM hs hcf;have hw1:=yR b (-1);rw[if_neg (by omega),Nat.add_zero]at hw1;have hn8:=hg.n8;have ag1:=hg.p12;have HF:=Lib.hid hcf;rw[hcf];clear hcf;cases hho:qR b with
  |false=>
   have HH:=Lib.hid hho;clear hho;go_wp2;refine(Lo.Jh (b:=b) (v:=v) rfl (HA.out w1 H1.out) (by omega) hg (-1) (by omega) HH.out).mono ?_
   rintro e w2⟨rfl,hb2⟩;go_wp2
   go_ret2
   exact⟨HX.out.2.trans ((H1.out.trans (hb2.mono s1)).mono (by omega)),by rw[if_neg (by rw[HF.out];simp),if_neg (by rw[HH.out];simp)];rfl⟩
  |true=>
   have HH:=Lib.hid hho;clear hho;go_wp2;refine(Lo.vJ (b:=b) (v:=v) rfl (HA.out w1 H1.out) (by omega) hg (-1) (by omega) HH.out).mono ?_
   rintro e w2⟨A,cap,rfl,hcap,hr,hb2⟩;rw[hw1];rw[hw1]at hcap hr;have HR:=Lib.hid (hr _ (Nat.le_refl _));have k1:=(dH hb2 _ _ (by omega)).trans g1;have k2:=(dH hb2 _ _ (by omega)).trans g2;clear hr;have szw:w.heap.size+1<=w2.heap.size:=by have :=hb2.size;omega
   have I8:=Lib.hid (HX.out.2.trans ((H1.out.trans (hb2.mono s1)).mono (by omega)));have hol:(p8 b).length=2*(b.dz.length+2*b.steps.length):=(pV _ _).trans (by rw[hw1]);generalize hos:mG (fA b (-1)) (dZ b (-1))=os at HR hol;have HOS:=Lib.hid hos;clear hb2 hos;go_wp2
   go_loopw [7,25] (λv i wr=>∃k:Nat,k<=b.steps.length∧i=.int .i64 (k:Int)∧wr.ownsRow w2.heap.size 48 2 v k (gW (qU os b.dz.length k))∧Par.dU wr v∧Below w2.heap.size w2 wr) (λ_ i _=>b.steps.length-(intOf i).toNat)
   case atStart=>exact⟨0,Nat.zero_le _,rfl,by simpa[qU,gW]using World.ownsRow_nil w2 w2.heap.size 48 2,Par.dU.nil _,Below.refl _ _⟩
   case round=>
    obtain⟨k,hk,rfl,hown,hpl,hb⟩:=hrel;have HP:=Lib.hid hpl;clear hpl
    by_cases hlt:k<b.steps.length
    .have hlt':(k:Int)<(b.steps.length:Int):=by omega
     obtain⟨bb,off,rfl,hbb,hc⟩:=(HR.out.below hb) (by omega);have g0:wr.cell? ⟨bb,off+(b.dz.length+2*k+1)*2,none⟩=some (.int .i64 ((os[2*(b.dz.length+2*k+1)+0]?).getD 0)):=hc (b.dz.length+2*k+1) 0 (by omega) (by omega);have g1:wr.cell? ⟨bb,off+(b.dz.length+2*k+1)*2+1,none⟩=some (.int .i64 ((os[2*(b.dz.length+2*k+1)+1]?).getD 0)):=hc (b.dz.length+2*k+1) 1 (by omega) (by omega);have hin:qU os b.dz.length (k+1)=qU os b.dz.length k++ [(os[2*(b.dz.length+2*k+1)+0]?).getD 0,(os[2*(b.dz.length+2*k+1)+1]?).getD 0]:=rfl;generalize(os[2*(b.dz.length+2*k+1)+0]?).getD 0=y0 at g0 hin;generalize(os[2*(b.dz.length+2*k+1)+1]?).getD 0=y1 at g1 hin;have e0:wr.cell? ⟨bb,off+(b.dz.length+2*k+1)*2,none⟩=some (.int .i64 y0):=g0;have e1:wr.cell? ⟨bb,off+(b.dz.length+2*k+1)*2+1,none⟩=some (.int .i64 y1):=g1;have d1:wr.cell? ⟨w.heap.size,1,none⟩=some (.slice v.ap b.dz.length v.cp):=(dH hb _ _ (by omega)).trans k1;have Yw:=hb.size;have HB:=Lib.hid hb;have HI:=Lib.hid hin;clear hb hc hin g0 g1
     go_wp2_with(first
      |(at_builtin;refine Par.fZ rfl _ _ 37 rfl w2.heap.size 48 i0 (.agg #[.int .i64 0,.int .i64 0]) 2 16 Lo.WS hi hz0 hz1 hz2 rfl (by decide) _ _ _ rfl (hown.alloc _) ⟨wr.heap.size,0,none⟩ 1 1 [.int .i64 y0,.int .i64 y1] rfl rfl ?c1 ?c2 ?c3 ?c4 ?c5 (HP.out.alloc _) ?c6 ?c7 ?_)
      |go_in)
     case c1=>
      intro j u hj
      match j,hj with
      |0,hj=>simp at hj;subst hj;simp[Addr.add]
      |1,hj=>simp at hj;subst hj;simp[Addr.add]
     case c2=>intro u hu;simp at hu;rcases hu with rfl|rfl<;>rfl
     case c3=>unfold maxLen;omega
     case c4=>omega
     case c5=>simp;omega
     case c6=>intro u hu;simp at hu;rcases hu with rfl|rfl<;>rfl
     case c7=>intro u hu;simp[Value.cells]at hu;subst hu;rfl
     intro v' w3 hown' hgrow _ hp';have Rw:=Lib.hid hp';clear hp';have R:=Lib.hid ((HB.out.alloc Yw _).grown hgrow (by simp;omega) (λj hj=>(hown.lt j hj).1));have RO:=Lib.hid hown';clear hown' hgrow hown HB;go_wp2;go_roundw
     case rel=>exact⟨k+1,by omega,by go_num,by rw[HI.out];simpa[gW]using RO.out,Rw.out,R.out⟩
     case measure=>simp[intOf];omega
    .obtain rfl:k=b.steps.length:=by omega
     obtain⟨A2,cap2,rfl,_,hr2⟩:=ownsRow.rd (B:=wr.heap.size) (f:= λi j=>.int .i64 (((qU os b.dz.length b.steps.length)[2*i+j]?).getD 0)) hown (λi j hi hj=>uU _ (Dk _ _ _) hi hj);have HR2:=Lib.hid (hr2 _ (Nat.le_refl _) (Nat.le_refl _));clear hr2 hown;go_wp2
     go_ret2
     show qa _ _ _ _;unfold qa;rw[if_neg (by rw[HF.out];simp),if_pos HH.out];refine⟨I8.out.trans (hb.mono (by omega)),_,_,rfl,?_,HP.out⟩;show jR wr _ _ (qU (mG (fA b (-1)) (dZ b (-1))) _ _);rw[HOS.out];exact HR2.out
 .obtain⟨cx,hcx⟩:∃cx,fG b=cx:=⟨_,rfl⟩;rw[hcx];rw[hcx]at hcf;have HF:=Lib.hid hcx;clear hcx;go_wp2
  go_ret2
  exact⟨HX.out.2.trans (H1.out.mono (by omega)),by rw[if_pos (by rw[HF.out];exact hcf),HF.out];rfl⟩
theorem Lo.R3:Lo.prog.underlying 40=some (.slice 51):=(Lo.underlying 40).trans (by kernel_rfl)
theorem Lo.YI:(Lo.prog.info? 51).map (λi=>(i.zero,i.size,i.bytes))=some (some (.int .i64 0),1,8):=by
 rw[Lo.info];kernel_rfl
def nU(lo hi limit:Int):Int:=if limit<lo then 1 else if hi<=limit then 2 else 0
abbrev zS(b:dO)(h:Nat):List Int:=mG (fA b h) (dZ b h)
def oG(b:dO)(limit:Int):Nat->List Int
 |0=>[]
 |h+1=>oG b limit h++ [nU (((zS b h)[2*(b.dz.length+2*b.steps.length)+0]?).getD 0) (((zS b h)[2*(b.dz.length+2*b.steps.length)+1]?).getD 0) limit]
theorem uV(b:dO)(limit:Int):∀h,(oG b limit h).length=h
 |0=>rfl
 |h+1=>by unfold oG;rw[List.length_append,uV b limit h];rfl
abbrev zT(b:dO)(limit:Int):List Int:=oG b limit b.dJ.length
def kz(w:World)(b:dO)(limit:Int)(e:Ending)(w':World):Prop:=
 Below w.heap.size w w'∧
 if fG b≠0 then e=.returned (.tuple #[.slice none 0 0,.int .i64 (fG b)])
 else if kH limit 0 1000000=false then e=.returned (.tuple #[.slice none 0 0,.int .i64 1])
 else if qR b=true then∃A cap,e=.returned (.tuple #[.slice A b.dJ.length cap,.int .i64 0])∧xJ w' w'.heap.size A (zT b limit)∧Par.dU w' (.slice A b.dJ.length cap)
 else e=.returned (.tuple #[.slice none 0 0,.int .i64 9])
theorem Ji(o:List Int){i:Nat}(hi:i<o.length):(gW o)[i*1+0]?=some (.int .i64 ((o[i]?).getD 0)):=by
 rw[Nat.mul_one,aH];exact sW o hi
theorem Gt{b:dO}(h:fG b=0):b.dJ.length<=4:=tY (EP h).1
theorem Lo.O0{w:World}{B:Nat}{b:dO}{v:gJ}{x:Value}(hx:x=dY b v)(hb:fC w B b v)(hB:B<=w.heap.size)(hs:b.small)(limit:Int)(YJ:fG b=0->qR b=true->∀h:Nat,h<b.dJ.length->gN (fA b h) (dZ b h)=true):
 Calls Lo.prog 11 #[x,.int .i64 limit] w (kz w b limit):=by
 obtain⟨U,U2,U3,U4,U5,U6⟩:=Lo.facts;have C:=Lo.call Tryz.func25;have C2:=Lo.call Tryz.func26;have C3:=Lo.call Tryz.func27;have C4:=Lo.call Tryz.func28;have C5:=Lo.call Tryz.func29;obtain⟨i0,hi,hz0,hz1,hz2⟩:=info_parts Lo.YI;subst hx;obtain⟨X,hX,sX,bX,hA,hC⟩:=bx9 hb hB;have HC:=Lib.hid hC;have HA:=Lib.hid hA;have HX:=Lib.hid (And.intro hX bX);clear hX bX hA hC hb;show Calls Lo.prog 11 #[Value.agg (lN b v),.int .i64 limit] w _;unfold lN;have hy:=HX.out.1;unfold lN at hy;obtain⟨f0,f1,f2,f3⟩:=al8 (HC.out X (Below.refl _ _));go_enter Lo.get Tryz.func11,Tryz.ntmps11;go_wp2;refine(Lo.gV (b:=b) (v:=v) rfl (HA.out X (Below.refl _ _)) (by omega) hs).mono ?_
 rintro e w1⟨rfl,h1⟩;obtain⟨g0,g1,g2,g3⟩:=al8 (HC.out w1 h1);have s1:=h1.size;have H1:=Lib.hid h1;clear h1 hy f0 f1 f2 f3;unfold kz
 by_cases hcf:fG b=0
 .have hg:=lM hs hcf;have hnh:=Gt hcf;have hnd:=Dh b (-1) hg;have HF:=Lib.hid hcf;have HH2:=Lib.hid (YJ hcf);rw[hcf];clear hcf YJ;go_wp2;refine(Lo.eB _ _ _ _).mono ?_
  rintro e w2⟨rfl,rfl⟩;cases hbt:kH limit 0 1000000 with
  |false=>
   have zk:=Lib.hid hbt;clear hbt;go_wp2
   go_ret2
   exact⟨HX.out.2.trans (H1.out.mono (by omega)),by rw[if_neg (by rw[HF.out];simp),if_pos zk.out];rfl⟩
  |true=>
   have zk:=Lib.hid hbt;clear hbt;go_wp2;refine(Lo.vH (b:=b) (v:=v) rfl (HA.out w1 H1.out) (by omega) hg (-1) (by omega)).mono ?_
   rintro e w3⟨bw,A,cap,rfl,hw,hb3⟩;have s3:=hb3.size;have h13:=H1.out.trans (hb3.mono s1);clear g0 g1 g2 g3;obtain⟨g0,g1,g2,g3⟩:=al8 (HC.out w3 h13);have H3:=Lib.hid (And.intro hw h13);clear hw hb3 h13;go_wp2;refine(Lo.oK H3.out.1 (Nat.le_refl _) hnd).mono ?_
   rintro e w4⟨rfl,hb4⟩;have h4:=H3.out.2.trans (hb4.mono (by omega))
   have hcb:∀j:Nat,w4.cell? ⟨w.heap.size,j,none⟩=(lN b v)[j]?:= λj=>by
    have h:=HC.out w4 h4;unfold World.cell?;simp only[h];rfl
   have s4:=h4.size;clear g0 g1 g2 g3;obtain⟨g0,g1,g2,g3⟩:=al8 (HC.out w4 h4);have I8:=Lib.hid (HX.out.2.trans (h4.mono (by omega)));have vG:=Lib.hid (HA.out w4 h4);have HCK:=Lib.hid hcb;clear hcb h4 hb4;unfold lN at HCK;cases hho:gN (fA b (-1)) (dZ b (-1))with
   |false=>
    have HH:=Lib.hid hho;clear hho;go_wp2
    go_ret2
    exact⟨I8.out,by rw[if_neg (by rw[HF.out];simp),if_neg (by rw[zk.out];simp),if_neg (by show¬gN (fA b (-1)) (dZ b (-1))=true;rw[HH.out];simp)];rfl⟩
   |true=>
    have HH:=Lib.hid hho;clear hho;have hn8:=hg.n8;have ag1:=hg.p12;have szw:w.heap.size+1<=w4.heap.size:=by omega
    go_wp2
    go_loopw [7,28] (λu i wr=>∃k:Nat,k<=b.dJ.length∧i=.int .i64 (k:Int)∧wr.ownsRow w4.heap.size 51 1 u k (gW (oG b limit k))∧Par.dU wr u∧Below w4.heap.size w4 wr) (λ_ i _=>b.dJ.length-(intOf i).toNat)
    case atStart=>exact⟨0,Nat.zero_le _,rfl,by simpa[oG,gW]using World.ownsRow_nil w4 w4.heap.size 51 1,Par.dU.nil _,Below.refl _ _⟩
    case round=>
     obtain⟨k,hk,rfl,hown,hpl,hb⟩:=hrel;have HP:=Lib.hid hpl;have HO:=Lib.hid hown;have HB:=Lib.hid hb;clear hpl hown hb
     by_cases hlt:k<b.dJ.length
     .have hlt':(k:Int)<(b.dJ.length:Int):=by omega
      have hwl:=yR b k;rw[if_pos (by omega)]at hwl;have e0:=(dH HB.out w.heap.size 0 (by omega)).trans (HCK.out 0);have e1:=(dH HB.out w.heap.size 1 (by omega)).trans (HCK.out 1);have e2:=(dH HB.out w.heap.size 2 (by omega)).trans (HCK.out 2);have e3:=(dH HB.out w.heap.size 3 (by omega)).trans (HCK.out 3);have Yw:=HB.out.size;have hj:oG b limit (k+1)=oG b limit k++ [nU (((zS b k)[2*(b.dz.length+2*b.steps.length)+0]?).getD 0) (((zS b k)[2*(b.dz.length+2*b.steps.length)+1]?).getD 0) limit]:=rfl;generalize hy0:((zS b k)[2*(b.dz.length+2*b.steps.length)+0]?).getD 0=y0 at hj;generalize hy1:((zS b k)[2*(b.dz.length+2*b.steps.length)+1]?).getD 0=y1 at hj;have Y0:=Lib.hid hy0;have Y1:=Lib.hid hy1;have HJ:=Lib.hid hj;clear hj hy0 hy1
      by_cases q0:limit<y0
      .have hq:nU y0 y1 limit=1:=by unfold nU;rw[if_pos q0]
       have HQ:=Lib.hid hq;clear hq
       go_wp2_with(first
        |(go_at_call 26;refine(Lo.vJ rfl (vG.out.keep λb o h=>dH HB.out b o (by omega)) (by omega) hg k (by omega) (HH2.out HH.out k hlt)).mono ?_;rintro e w5⟨A5,cap5,rfl,hcap,hr,hb5⟩;rw[hwl];rw[hwl]at hr;have hr:=hr _ (Nat.le_refl _);obtain⟨bb,off,rfl,hbb,hc⟩:=hr (by omega);have g0:w5.cell? ⟨bb,off+(b.dz.length+2*b.steps.length)*2,none⟩=some (.int .i64 y0):=by rw[<-Y0.out];exact hc (b.dz.length+2*b.steps.length) 0 (by omega) (by omega)
          have g1:w5.cell? ⟨bb,off+(b.dz.length+2*b.steps.length)*2+1,none⟩=some (.int .i64 y1):=by rw[<-Y1.out];exact hc (b.dz.length+2*b.steps.length) 1 (by omega) (by omega)
          have s5:wr.heap.size<=w5.heap.size:=hb5.size;have D6:=Lib.hid hb5;clear hb5 hc hr)
        |(at_builtin;refine Par.fZ rfl _ _ 40 rfl w4.heap.size 51 i0 (.int .i64 0) 1 8 Lo.R3 hi hz0 hz1 hz2 rfl (by decide) _ _ _ rfl (((ownsRow.below HO.out D6.out).alloc _).alloc _) ⟨w5.heap.size+1,0,none⟩ 1 1 [.int .i64 1] rfl rfl (by intro j u hj;match j,hj with |0,hj=>simp at hj;subst hj;simp[Addr.add]) (by intro u hu;simp at hu;subst hu;rfl) (by unfold maxLen;omega) (by omega) (by simp;omega) (((HP.out.keep λg hg=>D6.out.block g (HO.out.lt g hg).2).alloc _).alloc _) (by intro u hu;simp at hu;subst hu;rfl) (by intro u hu;simp[Value.cells]at hu;subst hu;rfl) ?_
          intro v' w6 hown' hgrow _ hp';have Rw:=Lib.hid hp';have Vj:=Lib.hid hown';have HG:=Lib.hid hgrow;clear hp' hown' hgrow)
        |go_in)
       go_roundw
       case rel=>exact⟨k+1,by omega,by go_num,by rw[HJ.out,HQ.out];simpa[gW]using Vj.out,Rw.out,(((HB.out.trans (D6.out.mono (by omega))).alloc (by omega) _).alloc (by simp;omega) _).grown HG.out (by simp;omega) (λj hj=>(HO.out.lt j hj).1)⟩
       case measure=>simp[intOf];omega
      .by_cases q1:y1<=limit
       .have hq:nU y0 y1 limit=2:=by unfold nU;rw[if_neg q0,if_pos q1]
        have HQ:=Lib.hid hq;clear hq
        go_wp2_with(first
         |(go_at_call 26;refine(Lo.vJ rfl (vG.out.keep λb o h=>dH HB.out b o (by omega)) (by omega) hg k (by omega) (HH2.out HH.out k hlt)).mono ?_;rintro e w5⟨A5,cap5,rfl,hcap,hr,hb5⟩;rw[hwl];rw[hwl]at hr;have hr:=hr _ (Nat.le_refl _);obtain⟨bb,off,rfl,hbb,hc⟩:=hr (by omega);have g0:w5.cell? ⟨bb,off+(b.dz.length+2*b.steps.length)*2,none⟩=some (.int .i64 y0):=by rw[<-Y0.out];exact hc (b.dz.length+2*b.steps.length) 0 (by omega) (by omega)
           have g1:w5.cell? ⟨bb,off+(b.dz.length+2*b.steps.length)*2+1,none⟩=some (.int .i64 y1):=by rw[<-Y1.out];exact hc (b.dz.length+2*b.steps.length) 1 (by omega) (by omega)
           have s5:wr.heap.size<=w5.heap.size:=hb5.size;have D6:=Lib.hid hb5;clear hb5 hc hr)
         |(at_builtin;refine Par.fZ rfl _ _ 40 rfl w4.heap.size 51 i0 (.int .i64 0) 1 8 Lo.R3 hi hz0 hz1 hz2 rfl (by decide) _ _ _ rfl (((ownsRow.below HO.out D6.out).alloc _).alloc _) ⟨w5.heap.size+1,0,none⟩ 1 1 [.int .i64 2] rfl rfl (by intro j u hj;match j,hj with |0,hj=>simp at hj;subst hj;simp[Addr.add]) (by intro u hu;simp at hu;subst hu;rfl) (by unfold maxLen;omega) (by omega) (by simp;omega) (((HP.out.keep λg hg=>D6.out.block g (HO.out.lt g hg).2).alloc _).alloc _) (by intro u hu;simp at hu;subst hu;rfl) (by intro u hu;simp[Value.cells]at hu;subst hu;rfl) ?_
           intro v' w6 hown' hgrow _ hp';have Rw:=Lib.hid hp';have Vj:=Lib.hid hown';have HG:=Lib.hid hgrow;clear hp' hown' hgrow)
         |go_in)
        go_roundw
        case rel=>exact⟨k+1,by omega,by go_num,by rw[HJ.out,HQ.out];simpa[gW]using Vj.out,Rw.out,(((HB.out.trans (D6.out.mono (by omega))).alloc (by omega) _).alloc (by simp;omega) _).grown HG.out (by simp;omega) (λj hj=>(HO.out.lt j hj).1)⟩
        case measure=>simp[intOf];omega
       .have hq:nU y0 y1 limit=0:=by unfold nU;rw[if_neg q0,if_neg q1]
        have HQ:=Lib.hid hq;clear hq
        go_wp2_with(first
         |(go_at_call 26;refine(Lo.vJ rfl (vG.out.keep λb o h=>dH HB.out b o (by omega)) (by omega) hg k (by omega) (HH2.out HH.out k hlt)).mono ?_;rintro e w5⟨A5,cap5,rfl,hcap,hr,hb5⟩;rw[hwl];rw[hwl]at hr;have hr:=hr _ (Nat.le_refl _);obtain⟨bb,off,rfl,hbb,hc⟩:=hr (by omega);have g0:w5.cell? ⟨bb,off+(b.dz.length+2*b.steps.length)*2,none⟩=some (.int .i64 y0):=by rw[<-Y0.out];exact hc (b.dz.length+2*b.steps.length) 0 (by omega) (by omega)
           have g1:w5.cell? ⟨bb,off+(b.dz.length+2*b.steps.length)*2+1,none⟩=some (.int .i64 y1):=by rw[<-Y1.out];exact hc (b.dz.length+2*b.steps.length) 1 (by omega) (by omega)
           have s5:wr.heap.size<=w5.heap.size:=hb5.size;have D6:=Lib.hid hb5;clear hb5 hc hr)
         |(at_builtin;refine Par.fZ rfl _ _ 40 rfl w4.heap.size 51 i0 (.int .i64 0) 1 8 Lo.R3 hi hz0 hz1 hz2 rfl (by decide) _ _ _ rfl (((ownsRow.below HO.out D6.out).alloc _).alloc _) ⟨w5.heap.size+1,0,none⟩ 1 1 [.int .i64 0] rfl rfl (by intro j u hj;match j,hj with |0,hj=>simp at hj;subst hj;simp[Addr.add]) (by intro u hu;simp at hu;subst hu;rfl) (by unfold maxLen;omega) (by omega) (by simp;omega) (((HP.out.keep λg hg=>D6.out.block g (HO.out.lt g hg).2).alloc _).alloc _) (by intro u hu;simp at hu;subst hu;rfl) (by intro u hu;simp[Value.cells]at hu;subst hu;rfl) ?_
           intro v' w6 hown' hgrow _ hp';have Rw:=Lib.hid hp';have Vj:=Lib.hid hown';have HG:=Lib.hid hgrow;clear hp' hown' hgrow)
         |go_in)
        go_roundw
        case rel=>exact⟨k+1,by omega,by go_num,by rw[HJ.out,HQ.out];simpa[gW]using Vj.out,Rw.out,(((HB.out.trans (D6.out.mono (by omega))).alloc (by omega) _).alloc (by simp;omega) _).grown HG.out (by simp;omega) (λj hj=>(HO.out.lt j hj).1)⟩
        case measure=>simp[intOf];omega
     .obtain rfl:k=b.dJ.length:=by omega
      obtain⟨A2,cap2,rfl,_,hr2⟩:=ownsRow.rd (B:=wr.heap.size) (f:= λi _=>.int .i64 (((oG b limit b.dJ.length)[i]?).getD 0)) HO.out (λi j hi hj=>(show j=0 by omega) ▸ Ji _ (by rw[uV];exact hi));have HR2:=Lib.hid (hr2 _ (Nat.le_refl _) (Nat.le_refl _));clear hr2;go_wp2
      go_ret2
      show kz _ _ _ _ _;unfold kz;rw[if_neg (by rw[HF.out];simp),if_neg (by rw[zk.out];simp),if_pos HH.out];refine⟨I8.out.trans (HB.out.mono (by omega)),_,_,rfl,?_,HP.out⟩;have :=HR2.out;unfold xJ;rw[uV];exact this
 .obtain⟨cx,hcx⟩:∃cx,fG b=cx:=⟨_,rfl⟩;rw[hcx];rw[hcx]at hcf;have HF:=Lib.hid hcx;clear hcx;go_wp2
  go_ret2
  exact⟨HX.out.2.trans (H1.out.mono (by omega)),by rw[if_pos (by rw[HF.out];exact hcf),HF.out];rfl⟩
def Be(b:dO)(k:Nat):dO:={ b with dA:=b.dA.take k }
def rV(b:dO):Nat->Nat->Int
 |0,_=> -1
 |f+1,k=>if qR (Be b k)=false then(k:Int)-1 else rV b f (k+1)
def Gv(b:dO):Int:=rV b (b.dA.length+1) 0
theorem YK{w:World}{B:Nat}{b:dO}{v:gJ}(h:fC w B b v)(k:Nat)(hk:k<=b.dA.length):fC w B (Be b k) v:=by
 have e:(b.dA.take k).length=k:=by rw[List.length_take];omega
 refine⟨h.dJ,h.dz,h.steps,h.ins,h.outs, λhn=>?_,h.lh,h.lp,h.ls,by have :=h.lc;show(b.dA.take k).length<=_;omega⟩;have hn:0<(b.dA.take k).length:=hn;obtain⟨bb,off,e1,h1,h2⟩:=h.dA (by omega);refine⟨bb,off,e1,h1, λi j hi hj=>?_⟩;have hi:i<(b.dA.take k).length:=hi;rw[h2 i j (by omega) hj];show _=some (vD (b.dA.take k) i j);unfold vD;rw[List.getElem?_take_of_lt (by omega)]
theorem R5{b:dO}(h:b.good)(k:Nat):(Be b k).good:=
 ⟨⟨h.dJ,h.dz,h.steps,by have :=h.dA;show(b.dA.take k).length<=64;rw[List.length_take];omega,h.ins,h.outs⟩,h.n8,h.p12, λs hs=>h.sc s (bE hs),h.st,h.ki,h.ko⟩
theorem Vo{w:World}{b:Nat}{x y z u:Value}{t:TypeId}(h:w.heap[b]?=some (.cells #[x,y,z,u] t)):w.cell? ⟨b,0,none⟩=some x∧w.cell? ⟨b,1,none⟩=some y∧w.cell? ⟨b,2,none⟩=some z∧w.cell? ⟨b,3,none⟩=some u∧w.frozen? ⟨b,3,none⟩=false:=by
 unfold World.cell? World.frozen?;simp only[h];exact⟨rfl,rfl,rfl,rfl,rfl⟩
theorem O1{w:World}{b:Nat}{x y z u u':Value}{t:TypeId}(h:w.heap[b]?=some (.cells #[x,y,z,u] t)):(w.setCell ⟨b,3,none⟩ u').heap[b]?=some (.cells #[x,y,z,u'] t):=heap_setCell_same w b 3 _ _ u' h
def nC(w:World)(b:dO)(e:Ending)(w':World):Prop:=
 Below w.heap.size w w'∧if fG b≠0 then e=.returned (.tuple #[.int .i64 0,.int .i64 (fG b)])else e=.returned (.tuple #[.int .i64 (Gv b),.int .i64 0])
theorem Lo.O3{w:World}{B:Nat}{b:dO}{v:gJ}{x:Value}(hx:x=dY b v)(hb:fC w B b v)(hB:B<=w.heap.size)(hs:b.small):
 Calls Lo.prog 12 #[x] w (nC w b):=by
 obtain⟨U,U2,U3,U4,U5,U6⟩:=Lo.facts;have C:=Lo.call Tryz.func25;have C2:=Lo.call Tryz.func28;have C3:=Lo.call Tryz.func29;have hlc:b.dA.length<=v.cc:=hb.lc;have HB0:=Lib.hid hb;have hl4:=hs.dA;subst hx;obtain⟨X,hX,sX,bX,hA,hC⟩:=bx9 hb hB;have HC:=Lib.hid hC;have HA:=Lib.hid hA;have HX:=Lib.hid (And.intro hX bX);clear hX bX hA hC hb;show Calls Lo.prog 12 #[Value.agg (lN b v)] w _;unfold lN;have hy:=HX.out.1;unfold lN at hy;obtain⟨f0,f1,f2,f3⟩:=al8 (HC.out X (Below.refl _ _));go_enter Lo.get Tryz.func12,Tryz.ntmps12;go_wp2;refine(Lo.gV (b:=b) (v:=v) rfl (HA.out X (Below.refl _ _)) (by omega) hs).mono ?_
 rintro e w1⟨rfl,h1⟩;obtain⟨g0,g1,g2,g3⟩:=al8 (HC.out w1 h1);have s1:=h1.size;have H1:=Lib.hid h1;clear h1 hy f0 f1 f2 f3;unfold nC
 by_cases hcf:fG b=0
 .have hg:=lM hs hcf;have HF:=Lib.hid hcf;rw[hcf];clear hcf;have HBX:=Lib.hid (And.intro (HC.out w1 H1.out) (HX.out.2.trans (H1.out.mono (by omega))));have szw:w.heap.size+1<=w1.heap.size:=by omega
  go_wp2
  go_loopw [17] (λi wr=>∃k:Nat,∃x,k<=b.dA.length+1∧i=.int .i64 (k:Int)∧wr.heap[w.heap.size]?=some (.cells #[.slice v.ah b.dJ.length v.ch,.slice v.ap b.dz.length v.cp,.slice v.iT b.steps.length v.cs,x] 26)∧Below w.heap.size w wr∧w.heap.size+1<=wr.heap.size∧rV b (b.dA.length+1-k) k=Gv b) (λi _=>b.dA.length+1-(intOf i).toNat)
  case atStart=>exact⟨0,_,Nat.zero_le _,rfl,HBX.out.1,HBX.out.2,szw,rfl⟩
  case round=>
   obtain⟨k,x,hk,rfl,hbx,hb,hsz,wK⟩:=hrel
   by_cases hlt:k<b.dA.length+1
   .have hlt':(k:Int)<(b.dA.length:Int)+1:=by omega
    have hkn:k<=b.dA.length:=by omega
    have hkc:k<=v.cc:=by omega
    have hd:rV b (b.dA.length+1-k) k=if qR (Be b k)=false then(k:Int)-1 else rV b (b.dA.length+1-(k+1)) (k+1):=by
     rw[show b.dA.length+1-k=(b.dA.length-k)+1 from by omega,show b.dA.length+1-(k+1)=b.dA.length-k from by omega];rfl
    rw[wK]at hd;obtain⟨e0,e1,e2,e3,ef⟩:=Vo hbx;have nE:=O1 (u':=.slice v.ac k v.cc) hbx;have hbk:fC (wr.setCell ⟨w.heap.size,3,none⟩ (.slice v.ac k v.cc)) B (Be b k) v:=(YK HB0.out k hkn).keep λb o h=>(World.cell?_of_block (Below.heap_setCell _ _ _ _ (by show b≠w.heap.size;omega))).trans (dH hb b o (by omega))
    have hbs:Below w.heap.size w (wr.setCell ⟨w.heap.size,3,none⟩ (.slice v.ac k v.cc)):=hb.setCell (p:=⟨w.heap.size,3,none⟩) (Nat.le_refl _) _;have hss:(wr.setCell ⟨w.heap.size,3,none⟩ (.slice v.ac k v.cc)).heap.size=wr.heap.size:=by simp[World.setCell]
    have hgk:=R5 hg k;have hnd:=Dh (Be b k) (-1) hgk;have R6:Value.agg #[.slice v.ah b.dJ.length v.ch,.slice v.ap b.dz.length v.cp,.slice v.iT b.steps.length v.cs,.slice v.ac k v.cc]=dY (Be b k) v:=by unfold dY Be;rw[List.length_take,Nat.min_eq_left hkn]
    have HD:=Lib.hid hd;have HS:=Lib.hid nE;have ag8:=Lib.hid hbk;have HBS:=Lib.hid hbs;have iy:=Lib.hid R6;clear hd nE hbk hbs R6 wK hbx hb;cases hho:gN (fA (Be b k) (-1)) (dZ (Be b k) (-1))with
    |false=>
     have HH:=Lib.hid hho;clear hho
     go_wp2_with(first
      |(go_at_call 28;refine(Lo.vH iy.out ag8.out (by omega) hgk (-1) (by omega)).mono ?_;rintro e w3⟨bw,A,cap,rfl,hw,hb3⟩;have HW:=Lib.hid hw;have HB3:=Lib.hid hb3;clear hw hb3)
      |(go_at_call 29;refine(Lo.oK HW.out (Nat.le_refl _) hnd).mono ?_;rintro e w4⟨rfl,hb4⟩;rw[HH.out]))
     go_ret2
     show nC _ _ _ _;unfold nC;rw[if_neg (by rw[HF.out];simp)];refine⟨(HBS.out.trans (HB3.out.mono (by omega))).trans (hb4.mono (by have :=HB3.out.size;omega)),?_⟩;have :=HD.out;rw[if_pos HH.out]at this;rw[this];rfl
    |true=>
     have HH:=Lib.hid hho;clear hho
     go_wp2_with(first
      |(go_at_call 28;refine(Lo.vH iy.out ag8.out (by omega) hgk (-1) (by omega)).mono ?_;rintro e w3⟨bw,A,cap,rfl,hw,hb3⟩;have HW:=Lib.hid hw;have HB3:=Lib.hid hb3;clear hw hb3)
      |(go_at_call 29;refine(Lo.oK HW.out (Nat.le_refl _) hnd).mono ?_;rintro e w4⟨rfl,hb4⟩;rw[HH.out];have vR:=Lib.hid hb4;clear hb4))
     have s3:=HB3.out.size;have s4:=vR.out.size;go_roundw
     case rel=>exact⟨k+1,_,by omega,by go_num,(vR.out.block _ (by omega)).trans ((HB3.out.block _ (by omega)).trans HS.out),(HBS.out.trans (HB3.out.mono (by omega))).trans (vR.out.mono (by omega)),by omega,by
      have :=HD.out;rw[if_neg (by show¬gN (fA (Be b k) (-1)) (dZ (Be b k) (-1))=false;rw[HH.out];simp)]at this;exact this.symm⟩
     case measure=>simp[intOf];omega
   .obtain rfl:k=b.dA.length+1:=by omega
    have hf:Gv b= -1:=by rw[<-wK,Nat.sub_self];rfl
    have HFF:=Lib.hid hf;clear hf wK;go_wp2
    go_ret2
    show nC _ _ _ _;unfold nC;rw[if_neg (by rw[HF.out];simp),HFF.out];exact⟨hb,rfl⟩
 .obtain⟨cx,hcx⟩:∃cx,fG b=cx:=⟨_,rfl⟩;rw[hcx];rw[hcx]at hcf;have HF:=Lib.hid hcx;clear hcx;go_wp2
  go_ret2
  exact⟨HX.out.2.trans (H1.out.mono (by omega)),by rw[if_pos (by rw[HF.out];exact hcf),HF.out];rfl⟩
end
end Go.Proofs
