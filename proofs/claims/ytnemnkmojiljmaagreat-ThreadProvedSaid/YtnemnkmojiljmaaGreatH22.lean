/- Part 22. -/
import Derived.Test.YtnemnkmojiljmaaGreatH21
set_option maxRecDepth 100000
set_option maxHeartbeats 0
set_option linter.all false
namespace Go.Proofs
open Go Go.RowKit Go.Maps
section
def gT (p:Int):List (List Int)->Nat->Int
 | [],_=> -1
 |l::r,k=>if l.contains p=true then (k:Int) else gT p r (k+1)
theorem wF (p:Int) (L:List (List Int)) (k:Nat) (h:k<L.length):gT p (L.drop k) k=if L[k].contains p=true then (k:Int) else gT p (L.drop (k+1)) (k+1):=by
 rw [aV h];rfl
theorem kP (p:Int):∀(L:List (List Int)) (k:Nat),(L.any λl=>l.contains p)=false->gT p L k= -1
 | [],k,_=>rfl
 |l::r,k,h=>by
  rw [List.any_cons,Bool.or_eq_false_iff] at h;unfold gT;rw [aa (by rw [h.1];simp),kP p r _ h.2]
theorem kQ (p:Int):∀(L:List (List Int)) (k:Nat),(L.any λl=>l.contains p)=true->∃n:Nat,gT p L k=(n:Int)
 | [],k,h=>by cases h
 |l::r,k,h=>by
  unfold gT
  by_cases hl:l.contains p=true
  ·rw [aj hl];exact ⟨k,rfl⟩
  ·rw [aa hl];rw [List.any_cons,show l.contains p=false by simpa using hl,Bool.false_or] at h;exact kQ p r _ h
variable [Lo.St]
theorem Lo.Jg {w:World} {B n:Nat} {A:Option Addr} {l:List ByteArray} {c:Nat} {s:ByteArray} (hn:n=l.length) (h1:F8 w B A l) (hl:l.length<=64):
 Calls Lo.prog 86 #[.slice A n c,.string s] w λe w'=>e= .returned (.int .i64 (yP s l 0))∧w'=w:=by
 subst hn;obtain ⟨U,U2,U3,U4,U5,U6⟩:=Lo.facts;go_enter Lo.get Tryz.func86,Tryz.ntmps86;go_wp2
 go_loopw [5] (λi wr=>∃k:Nat,k<=l.length∧i= .int .i64 (k:Int)∧yP s (l.drop k) k=yP s l 0∧wr=w) (λi _=>l.length - (intOf i).toNat)
 case atStart=>exact ⟨0,bg _,rfl,rfl,rfl⟩
 case round=>
  obtain ⟨k,hk,rfl,hx,rfl⟩:=hrel
  by_cases hlt:k<l.length
  ·have hlt':(k:Int)<(l.length:Int):=by omega
   obtain ⟨bb,off,rfl,hbb,hc⟩:=h1 (by omega);have r1:=FM hc hlt;have hd:=EN s l k hlt;rw [hx] at hd;clear hc h1 hx;generalize l[k]=x at r1 hd
   by_cases hq:s.toList=x.toList
   ·rw [aj hq] at hd;have d:(x.toList==s.toList)=true:=by simpa using hq.symm
    have HD:=dw hd;clear hd hq;go_wp2;go_ret;exact ⟨by rw [HD.out];rfl,by simp⟩
   ·rw [aa hq] at hd;have d:(x.toList==s.toList)=false:=by simpa using λh=>hq (Eq.symm h)
    have HD:=dw hd;clear hd hq;go_wp2;go_roundw
    case rel=>exact ⟨k+1,by omega,by go_num,HD.out.symm,by simp⟩
    case measure=>simp [intOf];omega
  ·obtain rfl:k=l.length:=by omega
   have hx':(-1:Int)=yP s l 0:=by rw [<-hx,aF];rfl
   have HX:=dw hx';clear hx hx';go_wp2;go_ret;exact ⟨by rw [<-HX.out];rfl,by simp⟩
theorem Lo.nH {w:World} {B n:Nat} {A:Option Addr} {l:List Int} {c:Nat} {p:Int} (hn:n=l.length) (h1:xJ w B A l) (hl:l.length<=64):
 Calls Lo.prog 70 #[.slice A n c,.int .i64 p] w λe w'=>e= .returned (.bool (l.contains p))∧w'=w:=by
 subst hn;obtain ⟨U,U2,U3,U4,U5,U6⟩:=Lo.facts;go_enter Lo.get Tryz.func70,Tryz.ntmps70;go_wp2
 go_loopw [5] (λi wr=>∃k:Nat,k<=l.length∧i= .int .i64 (k:Int)∧(l.drop k).contains p=l.contains p∧wr=w) (λi _=>l.length - (intOf i).toNat)
 case atStart=>exact ⟨0,bg _,rfl,rfl,rfl⟩
 case round=>
  obtain ⟨k,hk,rfl,hx,rfl⟩:=hrel
  by_cases hlt:k<l.length
  ·have hlt':(k:Int)<(l.length:Int):=by omega
   obtain ⟨bb,off,rfl,hbb,hc⟩:=h1 (by omega);have r1:=PT hc hlt;rw [aV hlt,List.contains_cons] at hx;clear hc h1;generalize l[k]=x at r1 hx
   by_cases hq:x=p
   ·subst hq;rw [beq_self_eq_true,Bool.true_or] at hx;have HD:=dw hx;clear hx;go_wp2;go_ret;exact ⟨by rw [<-HD.out];rfl,by simp⟩
   ·have hp:(p==x)=false:=by simpa using λh=>hq (Eq.symm h)
    rw [hp,Bool.false_or] at hx;have HD:=dw hx;clear hx hp;go_wp2;go_roundw
    case rel=>exact ⟨k+1,by omega,by go_num,HD.out,by simp⟩
    case measure=>simp [intOf];omega
  ·obtain rfl:k=l.length:=by omega
   have hx':l.contains p=false:=by rw [<-hx,aF];rfl
   have HX:=dw hx';clear hx hx';go_wp2;go_ret;exact ⟨by rw [HX.out];rfl,by simp⟩
theorem Lo.Di {w:World} {B:Nat} {A:Option Addr} {l:List ByteArray} {c most:Nat} (h1:F8 w B A l) (hl:l.length<=64) (hcap:l.length<=c) (hB:B<=w.heap.size) (hm:most<=64):
 Calls Lo.prog 51 #[.slice A l.length c,.int .i64 (most:Int)] w λe w'=>e= .returned (.int .i64 (dP l most))∧Below w.heap.size w w':=by
 obtain ⟨U,U2,U3,U4,U5,U6⟩:=Lo.facts;have C:=Lo.call Tryz.func85;have C2:=Lo.call Tryz.func86
 by_cases hgt:most<l.length
 ·have K3:(most:Int)<(l.length:Int):=by omega
  have e:dP l most=2:=by unfold dP;rw [aj hgt]
  rw [e];go_enter Lo.get Tryz.func51,Tryz.ntmps51
  go_wp2_with fail
  go_ret;exact ⟨rfl,di _ _⟩
 ·have K3:¬(most:Int)<(l.length:Int):=by omega
  have e:dP l most=qP l []:=by unfold dP;rw [aa hgt]
  rw [e];clear e;generalize hF:qP l []=F;have HF:=dw hF;clear hF;go_enter Lo.get Tryz.func51,Tryz.ntmps51
  go_wp2_with fail
  go_loopw [5] (λi wr=>∃k:Nat,k<=l.length∧i= .int .i64 (k:Int)∧qP (l.drop k) (l.take k)=F∧Below w.heap.size w wr) (λi _=>l.length - (intOf i).toNat)
  case atStart=>exact ⟨0,bg _,rfl,by rw [List.drop_zero,List.take_zero];exact HF.out,di _ _⟩
  case round=>
   obtain ⟨k,hk,rfl,hx,hb⟩:=hrel
   by_cases hlt:k<l.length
   ·have hlt':(k:Int)<(l.length:Int):=by omega
    have hkc:k<=c:=by omega
    have h1k:F8 wr B A l:=h1.keep λb o h=>dH hb b o (by omega)
    obtain ⟨bb,off,rfl,hbb,hc⟩:=h1k (by omega);have r1:=FM hc hlt;have ht:F8 wr B (some ⟨bb,off,none⟩) (l.take k):=F8.take (λ_=>⟨bb,off,rfl,hbb,hc⟩) k (by omega);have hd:=AU l k hlt;rw [hx] at hd;have htl:k=(l.take k).length:=by rw [List.length_take];omega
    generalize l[k]=s at r1 hd;have hi:∀x:World,Below w.heap.size w x->wr.heap.size<=x.heap.size->True:= λ_ _ _=>trivial
    have r2:∀x:World,Below wr.heap.size wr x->x.cell? ⟨bb,off+k,none⟩=some (.string s):= λx hb2=>(dH hb2 _ _ (by have :=hb.size;omega)).trans r1
    have R2:=dw r2;have HT:=dw ht;have HD:=dw hd;have HB:=dw hb;have HTL:=dw htl;have hge:=MJ s (l.take k) 0;generalize hix:yP s (l.take k) 0=ix at hge;have HI:=dw hix;clear hix;clear ht hd hb hc hx h1k h1 htl r2 hi;cases hnm:gy s with
    |false=>
     have HN:=dw hnm;clear hnm
     go_wp2_with (go_at_call 85;refine (Lo.zP _ _).mono ?_;rintro e w1 ⟨rfl,hb1⟩;rw [HN.out])
     go_ret;exact ⟨by rw [HD.out,aj HN.out];rfl,HB.out.trans (hb1.mono HB.out.size)⟩
    |true=>
     have HN:=dw hnm;clear hnm;cases RX:F9 s (l.take k) with
     |true=>
      rw [RX] at hge;have hge':0<=ix:=by simpa using hge
      have HH:=dw RX;clear RX hge
      go_wp2_with (go_at_call 85;refine (Lo.zP _ _).mono ?_;rintro e w1 ⟨rfl,hb1⟩;rw [HN.out];have r3:=R2.out w1 hb1;have hs1:=hb1.size;have hb2:=hb1.drew)
      go_still_tail 7,Lo.mixed
      change wpList _ _ _ _ _ w1.drew
      go_wp2_with (go_at_call 86;refine (Lo.Jg HTL.out (HT.out.keep λb o h=>dH hb2 b o (by have :=HB.out.size;omega)) (by rw [List.length_take];omega)).mono ?_;rintro e w2 ⟨rfl,rfl⟩;rw [HI.out])
      go_ret;exact ⟨by rw [HD.out,aa (by rw [HN.out];simp),aj HH.out];rfl,HB.out.trans (hb2.mono HB.out.size)⟩
     |false=>
      rw [RX] at hge;have hge':¬0<=ix:=by simpa using hge
      have HH:=dw RX;clear RX hge
      go_wp2_with (go_at_call 85;refine (Lo.zP _ _).mono ?_;rintro e w1 ⟨rfl,hb1⟩;rw [HN.out];have r3:=R2.out w1 hb1;have hs1:=hb1.size;have hb2:=hb1.drew)
      go_still_tail 7,Lo.mixed
      change wpList _ _ _ _ _ w1.drew
      go_wp2_with (go_at_call 86;refine (Lo.Jg HTL.out (HT.out.keep λb o h=>dH hb2 b o (by have :=HB.out.size;omega)) (by rw [List.length_take];omega)).mono ?_;rintro e w2 ⟨rfl,rfl⟩;rw [HI.out])
      go_roundw
      case rel=>exact ⟨k+1,by omega,by go_num,by rw [HD.out,aa (by rw [HN.out];simp),aa (by rw [HH.out];simp)],HB.out.trans (hb2.mono HB.out.size)⟩
      case measure=>simp [intOf];omega
   ·obtain rfl:k=l.length:=by omega
    rw [aF] at hx;have HX:=dw hx;clear hx
    go_wp2_with fail
    go_ret;exact ⟨by rw [<-HX.out];rfl,hb⟩
end
section
variable [Lo.St]
theorem Lo.rU {w:World} {B:Nat} {b:dO} {v:gJ} {x:Value} {n:Nat} {p:Int} (hx:x=dY b v) (hb:fC w B b v) (hB:B<=w.heap.size) (hg:b.small) (hn:n<=b.steps.length):
 Calls Lo.prog 53 #[x,.int .i64 p,.int .i64 (n:Int)] w λe w'=>e= .returned (.int .i64 (gT p ((b.steps.take n).map dW.outs) 0))∧Below w.heap.size w w':=by
 obtain ⟨U,U2,U3,U4,U5,U6⟩:=Lo.facts;have C:=Lo.call Tryz.func70;subst hx;obtain ⟨L,hL⟩:∃L,(b.steps.take n).map dW.outs=L:=⟨_,rfl⟩;have hLl:L.length=n:=by rw [<-hL];simp;omega
 have hLi:∀k (h:k<n),L[k]'(by omega)=(b.steps[k]'(by omega)).outs:= λk h=>by subst hL;simp
 rw [hL];obtain ⟨X,hX⟩:∃X,w.alloc (.cells (lN b v) 26)=X:=⟨_,rfl⟩;have hb1:fC X B b v:=hX ▸ hb.keep λb o h=>dh _ _ _ (by show b<w.heap.size;omega)
 have h2:X.cell? ⟨w.heap.size,2,none⟩=some (.slice v.iT b.steps.length v.cs):=by rw [<-hX,cO _ _ _ _ rfl];rfl
 have hw:Below w.heap.size w X:=hX ▸ (di _ _).alloc (aJ _) _;have hs:=hg.steps;have hgo:=hg.outs;have HB:=dw (aM hb1 (aM h2 (aM hLi (aM hw (aM hX hgo)))));clear hb hb1 h2 hLi hL hw hX hgo;show Calls Lo.prog 53 #[Value.agg (lN b v),.int .i64 p,.int .i64 (n:Int)] w _;unfold lN;go_enter Lo.get Tryz.func53,Tryz.ntmps53;go_wp2;change Code.wp _ _ _ _ (w.alloc (.cells (lN b v) 26));rw [HB.out.2.2.2.2.1]
 go_loopw [7] (λi wr=>∃k:Nat,k<=n∧i= .int .i64 (k:Int)∧gT p (L.drop k) k=gT p L 0∧wr=X) (λi _=>n - (intOf i).toNat)
 case atStart=>exact ⟨0,bg _,rfl,rfl,rfl⟩
 case round=>
  obtain ⟨k,hk,rfl,hx,rfl⟩:=hrel
  by_cases hlt:k<n
  ·have hlt':(k:Int)<(n:Int):=by omega
   have hks:k<b.steps.length:=by omega
   have ao8:(k:Int)<(b.steps.length:Int):=by omega
   obtain ⟨bb,off,e,hbb,hc⟩:=HB.out.1.steps (by omega);have c2:=HB.out.2.1;rw [e] at c2;have r:=(sZ hc hks).2.2.1;have ri:=HB.out.1.outs k _ (aN hks);have hl:=HB.out.2.2.2.2.2 _ (aX hks);have hd:=wF p L k (by omega);rw [hx,HB.out.2.2.1 k hlt] at hd;clear hc hx e;generalize b.steps[k].outs=l at r ri hl hd;generalize (v.sv k).a2=a0 at r ri;generalize (v.sv k).c2=c0 at r;have HR:=dw (aM ri hl);clear ri hl;cases hct:l.contains p with
   |true=>
    rw [aj hct] at hd;have HD:=dw (aM hct hd);clear hct hd
    go_wp2_with (go_at_call 70;refine (Lo.nH rfl HR.out.1 HR.out.2).mono ?_;rintro e w1 ⟨rfl,rfl⟩;rw [HD.out.1])
    go_ret;exact ⟨by rw [HD.out.2];rfl,HB.out.2.2.2.1⟩
   |false=>
    rw [aa (by rw [hct];simp)] at hd;have HD:=dw (aM hct hd);clear hct hd
    go_wp2_with (go_at_call 70;refine (Lo.nH rfl HR.out.1 HR.out.2).mono ?_;rintro e w1 ⟨rfl,rfl⟩;rw [HD.out.1])
    go_roundw
    case rel=>exact ⟨k+1,by omega,by go_num,HD.out.2.symm,by simp⟩
    case measure=>simp [intOf];omega
  ·obtain rfl:k=n:=by omega
   have hx':(-1:Int)=gT p L 0:=by rw [<-hx, <-hLl,aF];rfl
   have HX:=dw hx';clear hx hx';go_wp2;go_ret;exact ⟨by rw [<-HX.out];rfl,HB.out.2.2.2.1⟩
theorem Lo.Dj {w:World} {B:Nat} {b:dO} {v:gJ} {x:Value} {n:Nat} {p:Int} (hx:x=dY b v) (hb:fC w B b v) (hB:B<=w.heap.size) (hg:b.small) (hn:n<=b.steps.length):
 Calls Lo.prog 32 #[x,.int .i64 p,.int .i64 (n:Int)] w λe w'=>e= .returned (.int .i64 (gT p ((b.steps.take n).map dW.ins) 0))∧Below w.heap.size w w':=by
 obtain ⟨U,U2,U3,U4,U5,U6⟩:=Lo.facts;have C:=Lo.call Tryz.func70;subst hx;obtain ⟨L,hL⟩:∃L,(b.steps.take n).map dW.ins=L:=⟨_,rfl⟩;have hLl:L.length=n:=by rw [<-hL];simp;omega
 have hLi:∀k (h:k<n),L[k]'(by omega)=(b.steps[k]'(by omega)).ins:= λk h=>by subst hL;simp
 rw [hL];obtain ⟨X,hX⟩:∃X,w.alloc (.cells (lN b v) 26)=X:=⟨_,rfl⟩;have hb1:fC X B b v:=hX ▸ hb.keep λb o h=>dh _ _ _ (by show b<w.heap.size;omega)
 have h2:X.cell? ⟨w.heap.size,2,none⟩=some (.slice v.iT b.steps.length v.cs):=by rw [<-hX,cO _ _ _ _ rfl];rfl
 have hw:Below w.heap.size w X:=hX ▸ (di _ _).alloc (aJ _) _;have hs:=hg.steps;have hgo:=hg.ins;have HB:=dw (aM hb1 (aM h2 (aM hLi (aM hw (aM hX hgo)))));clear hb hb1 h2 hLi hL hw hX hgo;show Calls Lo.prog 32 #[Value.agg (lN b v),.int .i64 p,.int .i64 (n:Int)] w _;unfold lN;go_enter Lo.get Tryz.func32,Tryz.ntmps32;go_wp2;change Code.wp _ _ _ _ (w.alloc (.cells (lN b v) 26));rw [HB.out.2.2.2.2.1]
 go_loopw [7] (λi wr=>∃k:Nat,k<=n∧i= .int .i64 (k:Int)∧gT p (L.drop k) k=gT p L 0∧wr=X) (λi _=>n - (intOf i).toNat)
 case atStart=>exact ⟨0,bg _,rfl,rfl,rfl⟩
 case round=>
  obtain ⟨k,hk,rfl,hx,rfl⟩:=hrel
  by_cases hlt:k<n
  ·have hlt':(k:Int)<(n:Int):=by omega
   have hks:k<b.steps.length:=by omega
   have ao8:(k:Int)<(b.steps.length:Int):=by omega
   obtain ⟨bb,off,e,hbb,hc⟩:=HB.out.1.steps (by omega);have c2:=HB.out.2.1;rw [e] at c2;have r:=(sZ hc hks).2.1;have ri:=HB.out.1.ins k _ (aN hks);have hl:=HB.out.2.2.2.2.2 _ (aX hks);have hd:=wF p L k (by omega);rw [hx,HB.out.2.2.1 k hlt] at hd;clear hc hx e;generalize b.steps[k].ins=l at r ri hl hd;generalize (v.sv k).a1=a0 at r ri;generalize (v.sv k).c1=c0 at r;have HR:=dw (aM ri hl);clear ri hl;cases hct:l.contains p with
   |true=>
    rw [aj hct] at hd;have HD:=dw (aM hct hd);clear hct hd
    go_wp2_with (go_at_call 70;refine (Lo.nH rfl HR.out.1 HR.out.2).mono ?_;rintro e w1 ⟨rfl,rfl⟩;rw [HD.out.1])
    go_ret;exact ⟨by rw [HD.out.2];rfl,HB.out.2.2.2.1⟩
   |false=>
    rw [aa (by rw [hct];simp)] at hd;have HD:=dw (aM hct hd);clear hct hd
    go_wp2_with (go_at_call 70;refine (Lo.nH rfl HR.out.1 HR.out.2).mono ?_;rintro e w1 ⟨rfl,rfl⟩;rw [HD.out.1])
    go_roundw
    case rel=>exact ⟨k+1,by omega,by go_num,HD.out.2.symm,by simp⟩
    case measure=>simp [intOf];omega
  ·obtain rfl:k=n:=by omega
   have hx':(-1:Int)=gT p L 0:=by rw [<-hx, <-hLl,aF];rfl
   have HX:=dw hx';clear hx hx';go_wp2;go_ret;exact ⟨by rw [<-HX.out];rfl,HB.out.2.2.2.1⟩
end
end Go.Proofs
