/- Part 32. -/
import Derived.Test.YtnemnkmojiljmaaGreatG31
set_option maxRecDepth 100000
set_option maxHeartbeats 0
set_option linter.all false
namespace Go.Proofs
open Go Go.RowKit Go.Maps
section
theorem Tx {α:Type} (f:α->Bool) (l:List α) (k:Nat) (h:k<l.length):(l.drop k).any f=(f l[k]||(l.drop (k+1)).any f):=by
 rw [aW h];rfl
variable [Lo.St]
theorem Lo.AA (n l h:Int) (w:World):Calls Lo.prog 54 #[.int .i64 n,.int .i64 l,.int .i64 h] w λe w'=>e= .returned (.bool (nQ n l h))∧w=w':=by
 obtain ⟨U,U2,U3,U4,U5,U6⟩:=Lo.facts
 by_cases h1:l<=n
 ·by_cases h2:n<=h
  ·go_enter Lo.get Tryz.func54,Tryz.ntmps54;go_wp2;go_ret;exact ⟨by simp [nQ,h1,h2],rfl⟩
  ·go_enter Lo.get Tryz.func54,Tryz.ntmps54;go_wp2;go_ret;exact ⟨by simp [nQ,h1,h2],rfl⟩
 ·go_enter Lo.get Tryz.func54,Tryz.ntmps54;go_wp2;go_ret;exact ⟨by simp [nQ,h1];intro h;omega,rfl⟩
theorem Ty (s:ByteArray) {k:Nat} (h:k<s.size):(oO s)[k]'(by rw [sW];exact h)=((s[k]'h).toNat:Int):=by
 unfold oO;rw [List.getElem_map,Array.getElem_toList];rfl
theorem Lo.Xm (s:ByteArray) (w:World) (h:nQ s.size 1 14=false):Calls Lo.prog 85 #[.string s] w λe w'=>e= .returned (.bool (gM s))∧Below w.heap.size w w':=by
 have U:=Lo.underlying;have U2:=Lo.runUnderlying;have C:=Lo.call Tryz.func54;go_enter Lo.get Tryz.func85,Tryz.ntmps85
 go_wp2_with (go_at_call 54;refine (Lo.AA _ _ _ _).mono ?_;rintro e w1 ⟨rfl,rfl⟩;rw [h])
 go_ret;have hr:gM s=false:=by unfold gM;rw [h];rfl
 exact ⟨by rw [hr];rfl,dz _ _⟩
theorem Lo.Tz (s:ByteArray) (w:World) (h:nQ s.size 1 14=true):Calls Lo.prog 85 #[.string s] w λe w'=>e= .returned (.bool (gM s))∧Below w.heap.size w w':=by
 obtain ⟨U,U2,U3,U4,U5,U6⟩:=Lo.facts;have C:=Lo.call Tryz.func54;have hp:0<s.size:=by simp [nQ] at h;omega
 have hp2:s.size<=14:=by simp [nQ] at h;omega
 go_enter Lo.get Tryz.func85,Tryz.ntmps85
 go_wp2_with (go_at_call 54;refine (Lo.AA _ _ _ _).mono ?_;rintro e w1 ⟨rfl,rfl⟩;rw [h])
 ·go_ret;rename_i h1;obtain ⟨l,hl⟩:=pz s hp;have hr:gM s=false:=by unfold gM;rw [hl];simp;intro _ h2;omega
  exact ⟨by rw [hr];rfl,dz _ _⟩
 ·have hr:gM s=!(oO s).any wR:=by
   obtain ⟨l,hl⟩:=pz s hp;unfold gM;rw [h,hl];simp;intro;omega
  have HR:=dB hr;clear hr h
  go_loopw [3] (λi wr=>∃k:Nat,k<=s.size∧i= .int .i64 (k:Int)∧(oO s).any wR=((oO s).drop k).any wR∧wr=w) (λi _=>s.size - (intOf i).toNat)
  case atStart=>exact ⟨0,bq _,rfl,rfl,rfl⟩
  case round=>
   obtain ⟨k,hk,rfl,hx,rfl⟩:=hrel
   by_cases hlt:k<s.size
   ·have hlt':(k:Int)<(s.size:Int):=by omega
    rw [Tx _ _ _ (by rw [sW];exact hlt),Ty s hlt] at hx;have HX:=dB hx;clear hx;go_wp2
    all_goals first
     |(refine ⟨⟨k+1,hlt,by go_num,?_,trivial⟩,by simp [intOf];omega⟩
       have hb:wR (s[k].toNat:Int)=false:=by
        cases hq:wR (s[k].toNat:Int) with
        |false=>rfl
        |true=>
         exfalso;clear U U2 U3 U4 U5 U6 C HX HR;simp [wR] at *;omega
       rw [HX.out,hb];rfl)
     |(go_ret
       have hb:wR (s[k].toNat:Int)=true:=by
        cases hq:wR (s[k].toNat:Int) with
        |true=>rfl
        |false=>
         exfalso;clear U U2 U3 U4 U5 U6 C HX HR;simp [wR] at *;omega
       exact ⟨by rw [HR.out,HX.out,hb];rfl,dz _ _⟩)
   ·obtain rfl:k=s.size:=by omega
    have hx':(oO s).any wR=false:=by rw [hx, <-sW,aF];rfl
    go_wp2;go_ret;exact ⟨by rw [HR.out,hx'];rfl,dz _ _⟩
 ·go_ret;rename_i h1;obtain ⟨l,hl⟩:=pz s hp;have hr:gM s=false:=by unfold gM;rw [hl];simp;intro _ h2;omega
  exact ⟨by rw [hr];rfl,dz _ _⟩
theorem Lo.EA (s:ByteArray) (w:World):Calls Lo.prog 85 #[.string s] w λe w'=>e= .returned (.bool (gM s))∧Below w.heap.size w w':=by
 cases h:nQ s.size 1 14 with
 |true=>exact Lo.Tz s w h
 |false=>exact Lo.Xm s w h
end
section
def iA (p:Int):List (List Int)->Nat->Int
 | [],_=> -1
 |l::r,k=>if l.contains p=true then (k:Int) else iA p r (k+1)
theorem Bo (p:Int) (L:List (List Int)) (k:Nat) (h:k<L.length):iA p (L.drop k) k=if L[k].contains p=true then (k:Int) else iA p (L.drop (k+1)) (k+1):=by
 rw [aW h];rfl
theorem oz (p:Int):∀(L:List (List Int)) (k:Nat),(L.any λl=>l.contains p)=false->iA p L k= -1
 | [],k,_=>rfl
 |l::r,k,h=>by
  rw [List.any_cons,Bool.or_eq_false_iff] at h;unfold iA;rw [aa (by rw [h.1];simp),oz p r _ h.2]
theorem oC (p:Int):∀(L:List (List Int)) (k:Nat),(L.any λl=>l.contains p)=true->∃n:Nat,iA p L k=(n:Int)
 | [],k,h=>by cases h
 |l::r,k,h=>by
  unfold iA
  by_cases hl:l.contains p=true
  ·rw [aj hl];exact ⟨k,rfl⟩
  ·rw [aa hl];rw [List.any_cons,show l.contains p=false by simpa using hl,Bool.false_or] at h;exact oC p r _ h
variable [Lo.St]
theorem Lo.Nw {w:World} {B n:Nat} {A:Option Addr} {l:List ByteArray} {c:Nat} {s:ByteArray} (hn:n=l.length) (h1:KU w B A l) (hl:l.length<=64):
 Calls Lo.prog 86 #[.slice A n c,.string s] w λe w'=>e= .returned (.int .i64 (Di s l 0))∧w'=w:=by
 subst hn;obtain ⟨U,U2,U3,U4,U5,U6⟩:=Lo.facts;go_enter Lo.get Tryz.func86,Tryz.ntmps86;go_wp2
 go_loopw [5] (λi wr=>∃k:Nat,k<=l.length∧i= .int .i64 (k:Int)∧Di s (l.drop k) k=Di s l 0∧wr=w) (λi _=>l.length - (intOf i).toNat)
 case atStart=>exact ⟨0,bq _,rfl,rfl,rfl⟩
 case round=>
  obtain ⟨k,hk,rfl,hx,rfl⟩:=hrel
  by_cases hlt:k<l.length
  ·have hlt':(k:Int)<(l.length:Int):=by omega
   obtain ⟨bb,off,rfl,hbb,hc⟩:=h1 (by omega);have r1:=Kw hc hlt;have hd:=JN s l k hlt;rw [hx] at hd;clear hc h1 hx;generalize l[k]=x at r1 hd
   by_cases hq:s.toList=x.toList
   ·rw [aj hq] at hd;have d:(x.toList==s.toList)=true:=by simpa using hq.symm
    have HD:=dB hd;clear hd hq;go_wp2;go_ret;exact ⟨by rw [HD.out];rfl,by simp⟩
   ·rw [aa hq] at hd;have d:(x.toList==s.toList)=false:=by simpa using λh=>hq (Eq.symm h)
    have HD:=dB hd;clear hd hq;go_wp2;go_roundw
    case rel=>exact ⟨k+1,by omega,by go_num,HD.out.symm,by simp⟩
    case measure=>simp [intOf];omega
  ·obtain rfl:k=l.length:=by omega
   have hx':(-1:Int)=Di s l 0:=by rw [<-hx,aF];rfl
   have HX:=dB hx';clear hx hx';go_wp2;go_ret;exact ⟨by rw [<-HX.out];rfl,by simp⟩
theorem Lo.tN {w:World} {B n:Nat} {A:Option Addr} {l:List Int} {c:Nat} {p:Int} (hn:n=l.length) (h1:Cn w B A l) (hl:l.length<=64):
 Calls Lo.prog 70 #[.slice A n c,.int .i64 p] w λe w'=>e= .returned (.bool (l.contains p))∧w'=w:=by
 subst hn;obtain ⟨U,U2,U3,U4,U5,U6⟩:=Lo.facts;go_enter Lo.get Tryz.func70,Tryz.ntmps70;go_wp2
 go_loopw [5] (λi wr=>∃k:Nat,k<=l.length∧i= .int .i64 (k:Int)∧(l.drop k).contains p=l.contains p∧wr=w) (λi _=>l.length - (intOf i).toNat)
 case atStart=>exact ⟨0,bq _,rfl,rfl,rfl⟩
 case round=>
  obtain ⟨k,hk,rfl,hx,rfl⟩:=hrel
  by_cases hlt:k<l.length
  ·have hlt':(k:Int)<(l.length:Int):=by omega
   obtain ⟨bb,off,rfl,hbb,hc⟩:=h1 (by omega);have r1:=TN hc hlt;rw [aW hlt,List.contains_cons] at hx;clear hc h1;generalize l[k]=x at r1 hx
   by_cases hq:x=p
   ·subst hq;rw [beq_self_eq_true,Bool.true_or] at hx;have HD:=dB hx;clear hx;go_wp2;go_ret;exact ⟨by rw [<-HD.out];rfl,by simp⟩
   ·have hp:(p==x)=false:=by simpa using λh=>hq (Eq.symm h)
    rw [hp,Bool.false_or] at hx;have HD:=dB hx;clear hx hp;go_wp2;go_roundw
    case rel=>exact ⟨k+1,by omega,by go_num,HD.out,by simp⟩
    case measure=>simp [intOf];omega
  ·obtain rfl:k=l.length:=by omega
   have hx':l.contains p=false:=by rw [<-hx,aF];rfl
   have HX:=dB hx';clear hx hx';go_wp2;go_ret;exact ⟨by rw [HX.out];rfl,by simp⟩
theorem Lo.IJ {w:World} {B:Nat} {A:Option Addr} {l:List ByteArray} {c most:Nat} (h1:KU w B A l) (hl:l.length<=64) (hcap:l.length<=c) (hB:B<=w.heap.size) (hm:most<=64):
 Calls Lo.prog 51 #[.slice A l.length c,.int .i64 (most:Int)] w λe w'=>e= .returned (.int .i64 (eB l most))∧Below w.heap.size w w':=by
 obtain ⟨U,U2,U3,U4,U5,U6⟩:=Lo.facts;have C:=Lo.call Tryz.func85;have C2:=Lo.call Tryz.func86
 by_cases hgt:most<l.length
 ·have OY:(most:Int)<(l.length:Int):=by omega
  have e:eB l most=2:=by unfold eB;rw [aj hgt]
  rw [e];go_enter Lo.get Tryz.func51,Tryz.ntmps51
  go_wp2_with fail
  go_ret;exact ⟨rfl,dz _ _⟩
 ·have OY:¬(most:Int)<(l.length:Int):=by omega
  have e:eB l most=wS l []:=by unfold eB;rw [aa hgt]
  rw [e];clear e;generalize hF:wS l []=F;have HF:=dB hF;clear hF;go_enter Lo.get Tryz.func51,Tryz.ntmps51
  go_wp2_with fail
  go_loopw [5] (λi wr=>∃k:Nat,k<=l.length∧i= .int .i64 (k:Int)∧wS (l.drop k) (l.take k)=F∧Below w.heap.size w wr) (λi _=>l.length - (intOf i).toNat)
  case atStart=>exact ⟨0,bq _,rfl,by rw [List.drop_zero,List.take_zero];exact HF.out,dz _ _⟩
  case round=>
   obtain ⟨k,hk,rfl,hx,hb⟩:=hrel
   by_cases hlt:k<l.length
   ·have hlt':(k:Int)<(l.length:Int):=by omega
    have hkc:k<=c:=by omega
    have h1k:KU wr B A l:=h1.keep λb o h=>dP hb b o (by omega)
    obtain ⟨bb,off,rfl,hbb,hc⟩:=h1k (by omega);have r1:=Kw hc hlt;have ht:KU wr B (some ⟨bb,off,none⟩) (l.take k):=KU.take (λ_=>⟨bb,off,rfl,hbb,hc⟩) k (by omega);have hd:=Fa l k hlt;rw [hx] at hd;have htl:k=(l.take k).length:=by rw [List.length_take];omega
    generalize l[k]=s at r1 hd;have hi:∀x:World,Below w.heap.size w x->wr.heap.size<=x.heap.size->True:= λ_ _ _=>trivial
    have r2:∀x:World,Below wr.heap.size wr x->x.cell? ⟨bb,off+k,none⟩=some (.string s):= λx hb2=>(dP hb2 _ _ (by have :=hb.size;omega)).trans r1
    have R2:=dB r2;have HT:=dB ht;have HD:=dB hd;have HB:=dB hb;have HTL:=dB htl;have hge:=Qp s (l.take k) 0;generalize hix:Di s (l.take k) 0=ix at hge;have HI:=dB hix;clear hix;clear ht hd hb hc hx h1k h1 htl r2 hi;cases hnm:gM s with
    |false=>
     have HN:=dB hnm;clear hnm
     go_wp2_with (go_at_call 85;refine (Lo.EA _ _).mono ?_;rintro e w1 ⟨rfl,hb1⟩;rw [HN.out])
     go_ret;exact ⟨by rw [HD.out,aj HN.out];rfl,HB.out.trans (hb1.mono HB.out.size)⟩
    |true=>
     have HN:=dB hnm;clear hnm;cases VO:KV s (l.take k) with
     |true=>
      rw [VO] at hge;have hge':0<=ix:=by simpa using hge
      have HH:=dB VO;clear VO hge
      go_wp2_with (go_at_call 85;refine (Lo.EA _ _).mono ?_;rintro e w1 ⟨rfl,hb1⟩;rw [HN.out];have r3:=R2.out w1 hb1;have hs1:=hb1.size;have hb2:=hb1.drew)
      go_still_tail 7,Lo.mixed
      change wpList _ _ _ _ _ w1.drew
      go_wp2_with (go_at_call 86;refine (Lo.Nw HTL.out (HT.out.keep λb o h=>dP hb2 b o (by have :=HB.out.size;omega)) (by rw [List.length_take];omega)).mono ?_;rintro e w2 ⟨rfl,rfl⟩;rw [HI.out])
      go_ret;exact ⟨by rw [HD.out,aa (by rw [HN.out];simp),aj HH.out];rfl,HB.out.trans (hb2.mono HB.out.size)⟩
     |false=>
      rw [VO] at hge;have hge':¬0<=ix:=by simpa using hge
      have HH:=dB VO;clear VO hge
      go_wp2_with (go_at_call 85;refine (Lo.EA _ _).mono ?_;rintro e w1 ⟨rfl,hb1⟩;rw [HN.out];have r3:=R2.out w1 hb1;have hs1:=hb1.size;have hb2:=hb1.drew)
      go_still_tail 7,Lo.mixed
      change wpList _ _ _ _ _ w1.drew
      go_wp2_with (go_at_call 86;refine (Lo.Nw HTL.out (HT.out.keep λb o h=>dP hb2 b o (by have :=HB.out.size;omega)) (by rw [List.length_take];omega)).mono ?_;rintro e w2 ⟨rfl,rfl⟩;rw [HI.out])
      go_roundw
      case rel=>exact ⟨k+1,by omega,by go_num,by rw [HD.out,aa (by rw [HN.out];simp),aa (by rw [HH.out];simp)],HB.out.trans (hb2.mono HB.out.size)⟩
      case measure=>simp [intOf];omega
   ·obtain rfl:k=l.length:=by omega
    rw [aF] at hx;have HX:=dB hx;clear hx
    go_wp2_with fail
    go_ret;exact ⟨by rw [<-HX.out];rfl,hb⟩
end
section
variable [Lo.St]
theorem Lo.xX {w:World} {B:Nat} {b:dY} {v:gK} {x:Value} {n:Nat} {p:Int} (hx:x=eH b v) (hb:fJ w B b v) (hB:B<=w.heap.size) (hg:b.small) (hn:n<=b.steps.length):
 Calls Lo.prog 53 #[x,.int .i64 p,.int .i64 (n:Int)] w λe w'=>e= .returned (.int .i64 (iA p ((b.steps.take n).map eY.outs) 0))∧Below w.heap.size w w':=by
 obtain ⟨U,U2,U3,U4,U5,U6⟩:=Lo.facts;have C:=Lo.call Tryz.func70;subst hx;obtain ⟨L,hL⟩:∃L,(b.steps.take n).map eY.outs=L:=⟨_,rfl⟩;have hLl:L.length=n:=by rw [<-hL];simp;omega
 have hLi:∀k (h:k<n),L[k]'(by omega)=(b.steps[k]'(by omega)).outs:= λk h=>by subst hL;simp
 rw [hL];obtain ⟨X,hX⟩:∃X,w.alloc (.cells (jZ b v) 26)=X:=⟨_,rfl⟩;have hb1:fJ X B b v:=hX ▸ hb.keep λb o h=>dx _ _ _ (by show b<w.heap.size;omega)
 have h2:X.cell? ⟨w.heap.size,2,none⟩=some (.slice v.jY b.steps.length v.cs):=by rw [<-hX,dm _ _ _ _ rfl];rfl
 have hw:Below w.heap.size w X:=hX ▸ (dz _ _).alloc (aJ _) _;have hs:=hg.steps;have hgo:=hg.outs;have HB:=dB (aM hb1 (aM h2 (aM hLi (aM hw (aM hX hgo)))));clear hb hb1 h2 hLi hL hw hX hgo;show Calls Lo.prog 53 #[Value.agg (jZ b v),.int .i64 p,.int .i64 (n:Int)] w _;unfold jZ;go_enter Lo.get Tryz.func53,Tryz.ntmps53;go_wp2;change Code.wp _ _ _ _ (w.alloc (.cells (jZ b v) 26));rw [HB.out.2.2.2.2.1]
 go_loopw [7] (λi wr=>∃k:Nat,k<=n∧i= .int .i64 (k:Int)∧iA p (L.drop k) k=iA p L 0∧wr=X) (λi _=>n - (intOf i).toNat)
 case atStart=>exact ⟨0,bq _,rfl,rfl,rfl⟩
 case round=>
  obtain ⟨k,hk,rfl,hx,rfl⟩:=hrel
  by_cases hlt:k<n
  ·have hlt':(k:Int)<(n:Int):=by omega
   have hks:k<b.steps.length:=by omega
   have aB1:(k:Int)<(b.steps.length:Int):=by omega
   obtain ⟨bb,off,e,hbb,hc⟩:=HB.out.1.steps (by omega);have c2:=HB.out.2.1;rw [e] at c2;have r:=(yL hc hks).2.2.1;have ri:=HB.out.1.outs k _ (aO hks);have hl:=HB.out.2.2.2.2.2 _ (aY hks);have hd:=Bo p L k (by omega);rw [hx,HB.out.2.2.1 k hlt] at hd;clear hc hx e;generalize b.steps[k].outs=l at r ri hl hd;generalize (v.sv k).a2=a0 at r ri;generalize (v.sv k).c2=c0 at r;have HR:=dB (aM ri hl);clear ri hl;cases hct:l.contains p with
   |true=>
    rw [aj hct] at hd;have HD:=dB (aM hct hd);clear hct hd
    go_wp2_with (go_at_call 70;refine (Lo.tN rfl HR.out.1 HR.out.2).mono ?_;rintro e w1 ⟨rfl,rfl⟩;rw [HD.out.1])
    go_ret;exact ⟨by rw [HD.out.2];rfl,HB.out.2.2.2.1⟩
   |false=>
    rw [aa (by rw [hct];simp)] at hd;have HD:=dB (aM hct hd);clear hct hd
    go_wp2_with (go_at_call 70;refine (Lo.tN rfl HR.out.1 HR.out.2).mono ?_;rintro e w1 ⟨rfl,rfl⟩;rw [HD.out.1])
    go_roundw
    case rel=>exact ⟨k+1,by omega,by go_num,HD.out.2.symm,by simp⟩
    case measure=>simp [intOf];omega
  ·obtain rfl:k=n:=by omega
   have hx':(-1:Int)=iA p L 0:=by rw [<-hx, <-hLl,aF];rfl
   have HX:=dB hx';clear hx hx';go_wp2;go_ret;exact ⟨by rw [<-HX.out];rfl,HB.out.2.2.2.1⟩
theorem Lo.IK {w:World} {B:Nat} {b:dY} {v:gK} {x:Value} {n:Nat} {p:Int} (hx:x=eH b v) (hb:fJ w B b v) (hB:B<=w.heap.size) (hg:b.small) (hn:n<=b.steps.length):
 Calls Lo.prog 32 #[x,.int .i64 p,.int .i64 (n:Int)] w λe w'=>e= .returned (.int .i64 (iA p ((b.steps.take n).map eY.ins) 0))∧Below w.heap.size w w':=by
 obtain ⟨U,U2,U3,U4,U5,U6⟩:=Lo.facts;have C:=Lo.call Tryz.func70;subst hx;obtain ⟨L,hL⟩:∃L,(b.steps.take n).map eY.ins=L:=⟨_,rfl⟩;have hLl:L.length=n:=by rw [<-hL];simp;omega
 have hLi:∀k (h:k<n),L[k]'(by omega)=(b.steps[k]'(by omega)).ins:= λk h=>by subst hL;simp
 rw [hL];obtain ⟨X,hX⟩:∃X,w.alloc (.cells (jZ b v) 26)=X:=⟨_,rfl⟩;have hb1:fJ X B b v:=hX ▸ hb.keep λb o h=>dx _ _ _ (by show b<w.heap.size;omega)
 have h2:X.cell? ⟨w.heap.size,2,none⟩=some (.slice v.jY b.steps.length v.cs):=by rw [<-hX,dm _ _ _ _ rfl];rfl
 have hw:Below w.heap.size w X:=hX ▸ (dz _ _).alloc (aJ _) _;have hs:=hg.steps;have hgo:=hg.ins;have HB:=dB (aM hb1 (aM h2 (aM hLi (aM hw (aM hX hgo)))));clear hb hb1 h2 hLi hL hw hX hgo;show Calls Lo.prog 32 #[Value.agg (jZ b v),.int .i64 p,.int .i64 (n:Int)] w _;unfold jZ;go_enter Lo.get Tryz.func32,Tryz.ntmps32;go_wp2;change Code.wp _ _ _ _ (w.alloc (.cells (jZ b v) 26));rw [HB.out.2.2.2.2.1]
 go_loopw [7] (λi wr=>∃k:Nat,k<=n∧i= .int .i64 (k:Int)∧iA p (L.drop k) k=iA p L 0∧wr=X) (λi _=>n - (intOf i).toNat)
 case atStart=>exact ⟨0,bq _,rfl,rfl,rfl⟩
 case round=>
  obtain ⟨k,hk,rfl,hx,rfl⟩:=hrel
  by_cases hlt:k<n
  ·have hlt':(k:Int)<(n:Int):=by omega
   have hks:k<b.steps.length:=by omega
   have aB1:(k:Int)<(b.steps.length:Int):=by omega
   obtain ⟨bb,off,e,hbb,hc⟩:=HB.out.1.steps (by omega);have c2:=HB.out.2.1;rw [e] at c2;have r:=(yL hc hks).2.1;have ri:=HB.out.1.ins k _ (aO hks);have hl:=HB.out.2.2.2.2.2 _ (aY hks);have hd:=Bo p L k (by omega);rw [hx,HB.out.2.2.1 k hlt] at hd;clear hc hx e;generalize b.steps[k].ins=l at r ri hl hd;generalize (v.sv k).a1=a0 at r ri;generalize (v.sv k).c1=c0 at r;have HR:=dB (aM ri hl);clear ri hl;cases hct:l.contains p with
   |true=>
    rw [aj hct] at hd;have HD:=dB (aM hct hd);clear hct hd
    go_wp2_with (go_at_call 70;refine (Lo.tN rfl HR.out.1 HR.out.2).mono ?_;rintro e w1 ⟨rfl,rfl⟩;rw [HD.out.1])
    go_ret;exact ⟨by rw [HD.out.2];rfl,HB.out.2.2.2.1⟩
   |false=>
    rw [aa (by rw [hct];simp)] at hd;have HD:=dB (aM hct hd);clear hct hd
    go_wp2_with (go_at_call 70;refine (Lo.tN rfl HR.out.1 HR.out.2).mono ?_;rintro e w1 ⟨rfl,rfl⟩;rw [HD.out.1])
    go_roundw
    case rel=>exact ⟨k+1,by omega,by go_num,HD.out.2.symm,by simp⟩
    case measure=>simp [intOf];omega
  ·obtain rfl:k=n:=by omega
   have hx':(-1:Int)=iA p L 0:=by rw [<-hx, <-hLl,aF];rfl
   have HX:=dB hx';clear hx hx';go_wp2;go_ret;exact ⟨by rw [<-HX.out];rfl,HB.out.2.2.2.1⟩
end
section
def gP (b:dY) (i:Nat):List Int:=(b.steps.take i).flatMap eY.outs
def sF (b:dY) (i:Nat):List Int:=(b.steps.take i).flatMap eY.ins
theorem tO (L:List (List Int)) (p:Int):(L.flatten).contains p=L.any λl=>l.contains p:=by
 induction L with
 |nil=>rfl
 |cons l r ih=>simp only [List.flatten_cons,List.contains_append,List.any_cons,ih]
theorem DF (l r:List Int) (p:Int):(l++r).contains p=(l.contains p||r.contains p):=by simp
def qf (b:dY) (i:Nat) (s:eY):Int:=
 if nQ s.hand 0 ((b.dR.length:Int) - 1)=false then 6 else
 if (uF b.dF.length (gP b i) s.ins (sF b i)).1≠0 then (uF b.dF.length (gP b i) s.ins (sF b i)).1 else
 if (kX b.dF.length s.outs (gP b i)).1≠0 then (kX b.dF.length s.outs (gP b i)).1 else
 if fC s.g0 s.g1 0 1000000=false then 1 else if fC s.l0 s.l1 0 1000000=false then 1 else 0
theorem cell_of {X:World} {b:Nat} {c:Array Value} {e:TypeId} {fr:Nat×Nat} (h:X.heap[b]?=some (.cells c e fr)) (o:Nat) {v:Value} (hv:c[o]?=some v:=by rfl):X.cell? ⟨b,o,none⟩=some v:=by
 unfold World.cell?;simp only [h];rw [hv];rfl
theorem Ny {w:World} {B bb off k:Nat} {l:List Int} (hc:∀i j,i<l.length->j<1->w.cell? ⟨bb,off+(i*1+j),none⟩=some (.int .i64 ((l[i]?).getD 0))) (hb:bb<B) (hk:k<=l.length):Cn w B (some ⟨bb,off,none⟩) (l.take k):= λhn=>⟨bb,off,rfl,hb, λi j hi hj=>by
 rw [List.length_take] at hi;rw [hc i j (by omega) hj];dsimp only;rw [List.getElem?_take,aj (by omega)]⟩
theorem jX {P:Program} {C:World->Prop} {id:Nat} {Q:Exit->Act->World->Prop} {a:Act} {w:World} {l:List Oper} (hm:P.follows .mixedOrders=true) (hB:Region.lexB .any l.toArray=true) (hC:C w.drew)
 (h:wpQuiet P l.toArray C (λa'=>∀w',C w'->Q .normal a' w') l a):(Code.region id l.toArray true).wp P Q a w:=
 wp_region_quiet (C:=C) hm hB hC (by simpa using h)
def DI (b:dY) (v:gK):Prop:=∀i s,b.steps[i]?=some s->s.ins.length<=(v.sv i).c1∧s.outs.length<=(v.sv i).c2
variable [Lo.St]
attribute [local irreducible] wpQuiet
theorem Lo.Jf {w:World} {B:Nat} {b:dY} {v:gK} {x:Value} {i:Nat} (hx:x=eH b v) (hb:fJ w B b v) (hB:B<=w.heap.size) (hg:b.small) (hbc:DI b v) (hi:i<b.steps.length):
 Calls Lo.prog 52 #[x,.int .i64 (i:Int)] w λe w'=>e= .returned (.int .i64 (qf b i b.steps[i]))∧Below w.heap.size w w':=by
 obtain ⟨U,U2,U3,U4,U5,U6⟩:=Lo.facts;have C:=Lo.call Tryz.func54;have C2:=Lo.call Tryz.func53;have C3:=Lo.call Tryz.func32;have C4:=Lo.call Tryz.func70;have C5:=Lo.call Tryz.func55;subst hx;obtain ⟨bb,off,e,hbb,hc⟩:=hb.steps (by omega);have hbi:=hb.ins i _ (aO hi);have Wl:=hb.outs i _ (aO hi);obtain ⟨r0,r1,r2,r3,r4,r5,r6⟩:=yL hc hi;have O1:=dB hb;clear hb hc;obtain ⟨ah,ch,ap,cp,jY,cs,ac,cc,sv⟩:=v;simp only at e hbi Wl r0 r1 r2 r3 r4 r5 r6;subst e;have hbv:eH b ⟨ah,ch,ap,cp,some ⟨bb,off,none⟩,cs,ac,cc,sv⟩=Value.agg #[.slice ah b.dR.length ch,.slice ap b.dF.length cp,.slice (some ⟨bb,off,none⟩) b.steps.length cs,.slice ac b.dJ.length cc]:=rfl;obtain ⟨hq1,hq2⟩:=hbc i _ (aO hi);simp only at hq1 hq2;clear hbc;have hli:=hg.ins _ (aY hi);have hlo:=hg.outs _ (aY hi);have hi':(i:Int)<(b.steps.length:Int):=by omega
 have past:∀o d,d<w.heap.size->∀x,w.cell? ⟨d,o,none⟩=some x->(w.alloc (.cells #[.slice ah b.dR.length ch,.slice ap b.dF.length cp,.slice (some ⟨bb,off,none⟩) b.steps.length cs,.slice ac b.dJ.length cc] 26)).cell? ⟨d,o,none⟩=some x:= λo d hd x h=>(dx _ _ _ (by show d<w.heap.size;exact hd)).trans h
 have q0:=past _ _ (by omega) _ r0;have q1:=past _ _ (by omega) _ r1;have q2:=past _ _ (by omega) _ r2;have q3:=past _ _ (by omega) _ r3;have q4:=past _ _ (by omega) _ r4;have q5:=past _ _ (by omega) _ r5;have q6:=past _ _ (by omega) _ r6;clear past r0 r1 r2 r3 r4 r5 r6;rw [hbv];have jJ:=dB (aM hbv (aM hbi Wl));clear hbv hbi Wl;generalize b.steps[i]=s at *;go_enter Lo.get Tryz.func52,Tryz.ntmps52;go_wp2;obtain ⟨Y,hY⟩:∃Y,((w.alloc (.cells #[.slice ah b.dR.length ch,.slice ap b.dF.length cp,.slice (some ⟨bb,off,none⟩) b.steps.length cs,.slice ac b.dJ.length cc] 26)).alloc (.cells #[.int .i64 s.hand,.slice (sv i).a1 s.ins.length (sv i).c1,.slice (sv i).a2 s.outs.length (sv i).c2,.int .i64 s.g0,.int .i64 s.g1,.int .i64 s.l0,.int .i64 s.l1] 53))=Y:=⟨_,rfl⟩;have bW:Below w.heap.size w Y:=hY ▸ ((dz _ _).alloc (aJ _) _).alloc (by simp) _;have sY:Y.heap.size=w.heap.size+2:=by rw [<-hY];simp
 have g1:Y.heap[w.heap.size+1]?=some (.cells #[.int .i64 s.hand,.slice (sv i).a1 s.ins.length (sv i).c1,.slice (sv i).a2 s.outs.length (sv i).c2,.int .i64 s.g0,.int .i64 s.g1,.int .i64 s.l0,.int .i64 s.l1] 53):=by
  rw [<-hY];have :=di (w.alloc (.cells #[.slice ah b.dR.length ch,.slice ap b.dF.length cp,.slice (some ⟨bb,off,none⟩) b.steps.length cs,.slice ac b.dJ.length cc] 26)) (.cells #[.int .i64 s.hand,.slice (sv i).a1 s.ins.length (sv i).c1,.slice (sv i).a2 s.outs.length (sv i).c2,.int .i64 s.g0,.int .i64 s.g1,.int .i64 s.l0,.int .i64 s.l1] 53)
  rwa [World.size_alloc] at this
 have g0:Y.heap[w.heap.size]?=some (.cells #[.slice ah b.dR.length ch,.slice ap b.dF.length cp,.slice (some ⟨bb,off,none⟩) b.steps.length cs,.slice ac b.dJ.length cc] 26):=by
  rw [<-hY,dw _ _ _ (by simp)];exact di _ _
 rw [hY];have G:=dB (aM bW (aM g0 g1));clear hY bW g0 g1 q0 q1 q2 q3 q4 q5 q6;have iw:wrap64 ((b.dR.length:Int) - 1)=(b.dR.length:Int) - 1:=by have :=hg.dR;unfold wrap64;omega
 have iw2:wrap64 ((b.dF.length:Int) - 1)=(b.dF.length:Int) - 1:=by have :=hg.dF;unfold wrap64;omega
 rw [iw];refine (Lo.AA _ _ _ _).mono ?_
 rintro e w1 ⟨rfl,rfl⟩;cases hbt:nQ s.hand 0 ((b.dR.length:Int) - 1) with
 |false=>
  have HX:=dB hbt;clear hbt;go_wp2;go_ret;exact ⟨by unfold qf;rw [aj HX.out];rfl,G.out.1⟩
 |true=>
  have HX:=dB hbt;clear hbt;obtain ⟨F1,hF1⟩:∃F1,uF b.dF.length (gP b i) s.ins (sF b i)=F1:=⟨_,rfl⟩;have av3:F1.1≠0->qf b i s=F1.1:= λh=>by unfold qf;rw [aa (by rw [HX.out];simp),hF1,aj h]
  have HF:=dB (aM hF1 av3);clear hF1 av3;obtain ⟨Cl,hCl⟩:∃Cl:World->Prop,∀W,Cl W↔Below Y.heap.size Y W:=⟨_, λ_=>Iff.rfl⟩;have mY:=dB hCl;clear hCl;generalize ha1:(sv i).a1=a1 at *;generalize ha2:(sv i).a2=a2 at *;generalize hc1:(sv i).c1=c1 at *;generalize hc2:(sv i).c2=c2 at *;clear ha1 ha2 hc1 hc2;have iw3:IntKind.i64.wrap ((b.dF.length:Int) - 1)=(b.dF.length:Int) - 1:=by have :=hg.dF;rw [dh];omega
  go_wp2
  go_loopw [6] (λix wr=>∃k:Nat,k<=s.ins.length∧ix= .int .i64 (k:Int)∧uF b.dF.length (gP b i) (s.ins.drop k) (sF b i++s.ins.take k)=F1∧Below Y.heap.size Y wr) (λix _=>s.ins.length - (intOf ix).toNat)
  case atStart=>exact ⟨0,bq _,rfl,by rw [List.drop_zero,List.take_zero,List.append_nil];exact HF.out.1,dz _ _⟩
  case round=>
   obtain ⟨k,hk,rfl,hx,hb⟩:=hrel
   by_cases hlt:k<s.ins.length
   ·have hlt':(k:Int)<(s.ins.length:Int):=by omega
    have hkc:k<=c1:=by omega
    obtain ⟨ib,io,rfl,hib,hic⟩:=jJ.out.2.1 (by omega);have r:=TN hic hlt;have ht:Cn w B (some ⟨ib,io,none⟩) (s.ins.take k):=Ny hic hib (by omega);have htl:k=(s.ins.take k).length:=by rw [List.length_take];omega
    rw [JQ _ _ _ _ _ hlt] at hx;have htk:sF b i++s.ins.take (k+1)=sF b i++s.ins.take k++ [s.ins[k]]:=by rw [bB hlt,List.append_assoc]
    generalize s.ins[k]=p at r hx htk;rw [DF] at hx;have em:(gP b i).contains p=((b.steps.take i).map eY.outs).any λl=>l.contains p:=by unfold gP;rw [List.flatMap_def,tO]
    have eu:(sF b i).contains p=((b.steps.take i).map eY.ins).any λl=>l.contains p:=by unfold sF;rw [List.flatMap_def,tO]
    obtain ⟨fm,hfm⟩:∃fm,iA p ((b.steps.take i).map eY.outs) 0=fm:=⟨_,rfl⟩;obtain ⟨fu,hfu⟩:∃fu,iA p ((b.steps.take i).map eY.ins) 0=fu:=⟨_,rfl⟩;have hm:((gP b i).contains p=false->fm= -1)∧((gP b i).contains p=true->∃n:Nat,fm=(n:Int)):=by rw [em, <-hfm];exact ⟨oz p _ _,oC p _ _⟩
    have hu:((sF b i).contains p=false->fu= -1)∧((sF b i).contains p=true->∃n:Nat,fu=(n:Int)):=by rw [eu, <-hfu];exact ⟨oz p _ _,oC p _ _⟩
    clear em eu;have HM:=dB hfm;have HU:=dB hfu;have HT:=dB (aM ht (aM htl htk))
    have hC:∀W,Below Y.heap.size Y W->W.cell? ⟨w.heap.size,0,none⟩=some (.slice ah b.dR.length ch)∧W.cell? ⟨w.heap.size,1,none⟩=some (.slice ap b.dF.length cp)∧W.cell? ⟨w.heap.size,2,none⟩=some (.slice (some ⟨bb,off,none⟩) b.steps.length cs)∧W.cell? ⟨w.heap.size,3,none⟩=some (.slice ac b.dJ.length cc)∧W.cell? ⟨w.heap.size+1,1,none⟩=some (.slice (some ⟨ib,io,none⟩) s.ins.length c1)∧W.cell? ⟨w.heap.size+1,2,none⟩=some (.slice a2 s.outs.length c2)∧W.cell? ⟨w.heap.size+1,3,none⟩=some (.int .i64 s.g0)∧W.cell? ⟨w.heap.size+1,4,none⟩=some (.int .i64 s.g1)∧W.cell? ⟨w.heap.size+1,5,none⟩=some (.int .i64 s.l0)∧W.cell? ⟨w.heap.size+1,6,none⟩=some (.int .i64 s.l1)∧W.cell? ⟨ib,io+k,none⟩=some (.int .i64 p):= λW hW=>by
     have p1:=(hW.block w.heap.size (by omega)).trans G.out.2.1;have p2:=(hW.block (w.heap.size+1) (by omega)).trans G.out.2.2;exact ⟨cell_of p1 0,cell_of p1 1,cell_of p1 2,cell_of p1 3,cell_of p2 1,cell_of p2 2,cell_of p2 3,cell_of p2 4,cell_of p2 5,cell_of p2 6,(dP (G.out.1.trans (hW.mono (by omega))) ib _ (by omega)).trans r⟩
    have HC:=dB hC;clear hC;clear hfm hfu hic r ht htl htk;obtain ⟨f0,f1,f2,f3,f4,f5,f6,f7,f8,f9,f10⟩:=HC.out wr hb;go_wp2;refine jX (C:=Cl) Lo.mixed (by kernel_rfl) ((mY.out _).2 hb.drew) ?_
    repeat
     refine wpQuiet_step (λK hK=>?_);go_simp
     first
      |(apply Exists.intro;refine ⟨λW hW=>?_,hK _ ?_⟩
        ·obtain ⟨f0,f1,f2,f3,f4,f5,f6,f7,f8,f9,f10⟩:=HC.out W ((mY.out W).1 hW)
         first
          |rfl
          |(go_simp;rfl)
          |(go_simp;go_at_call 54;refine (Lo.AA _ _ _ _).mono ?_;rintro e w9 ⟨rfl,rfl⟩;exact ⟨rfl,hW⟩)
        clear hK K)
      |(refine hK _ ?_;clear hK K)
    refine wpQuiet_nil ?_
    clear hb;intro z1 hb;replace hb:=(mY.out _).1 hb;obtain ⟨f0,f1,f2,f3,f4,f5,f6,f7,f8,f9,f10⟩:=HC.out z1 hb;cases hbp:nQ p 0 ((b.dF.length:Int) - 1) with
    |false=>
     rw [aj hbp] at hx;have HQ:=dB hx;clear hbp hx hm hu;go_wp2;go_ret;exact ⟨by rw [HF.out.2 (by rw [<-HQ.out];simp), <-HQ.out];rfl,G.out.1.trans (hb.mono (by omega))⟩
    |true=>
     rw [aa (by rw [hbp];simp)] at hx;clear hbp;go_wp2;refine jX (C:=Cl) Lo.mixed (by kernel_rfl) ((mY.out _).2 hb.drew) ?_
     repeat
      refine wpQuiet_step (λK hK=>?_);go_simp
      first
       |(apply Exists.intro;refine ⟨λW hW=>?_,hK _ ?_⟩
         ·obtain ⟨f0,f1,f2,f3,f4,f5,f6,f7,f8,f9,f10⟩:=HC.out W ((mY.out W).1 hW)
          first
           |rfl
           |(go_simp;rfl)
           |(go_simp;go_at_call 53;refine (Lo.xX (n:=i) jJ.out.1.symm (O1.out.keep λd o h=>dP (G.out.1.trans (((mY.out W).1 hW).mono (by omega))) d o (by omega)) (by have :=((mY.out W).1 hW).size;omega) hg (by omega)).mono ?_;rintro e w9 ⟨rfl,h9⟩;rw [HM.out];exact ⟨rfl,(mY.out _).2 (((mY.out W).1 hW).trans (h9.mono ((mY.out W).1 hW).size))⟩)
         clear hK K)
       |(refine hK _ ?_;clear hK K)
     refine wpQuiet_nil ?_
     clear hb;intro z2 hb;replace hb:=(mY.out _).1 hb;obtain ⟨f0,f1,f2,f3,f4,f5,f6,f7,f8,f9,f10⟩:=HC.out z2 hb;cases hmp:(gP b i).contains p with
     |false=>
      rw [aj hmp] at hx;obtain rfl:=hm.1 hmp;have HQ:=dB hx;clear hx hm hu hmp;go_wp2;go_ret;exact ⟨by rw [HF.out.2 (by rw [<-HQ.out];simp), <-HQ.out];rfl,G.out.1.trans (hb.mono (by omega))⟩
     |true=>
      rw [aa (by rw [hmp];simp)] at hx;obtain ⟨nm,rfl⟩:=hm.2 hmp;have hfe:decide ((nm:Int)<0)=false:=decide_eq_false (Int.not_lt.2 (Int.natCast_nonneg nm));have aD6:¬(nm:Int)<0:=Int.not_lt.2 (Int.natCast_nonneg nm);clear hm hmp;cases hup:(sF b i).contains p with
      |true=>
       rw [hup,Bool.true_or,aj rfl] at hx;obtain ⟨nu,rfl⟩:=hu.2 hup;have Wy:decide ((0:Int)<=(nu:Int))=true:=decide_eq_true (Int.natCast_nonneg nu);have HQ:=dB hx;clear hx hu hup;go_wp2;refine jX (C:=Cl) Lo.mixed (by kernel_rfl) ((mY.out _).2 hb.drew) ?_
       repeat
        refine wpQuiet_step (λK hK=>?_);go_simp
        first
         |(apply Exists.intro;refine ⟨λW hW=>?_,hK _ ?_⟩
           ·obtain ⟨f0,f1,f2,f3,f4,f5,f6,f7,f8,f9,f10⟩:=HC.out W ((mY.out W).1 hW)
            first
             |rfl
             |(go_simp;rfl)
             |(go_simp;go_at_call 32;refine (Lo.IK (n:=i) jJ.out.1.symm (O1.out.keep λd o h=>dP (G.out.1.trans (((mY.out W).1 hW).mono (by omega))) d o (by omega)) (by have :=((mY.out W).1 hW).size;omega) hg (by omega)).mono ?_;rintro e w9 ⟨rfl,h9⟩;rw [HU.out];exact ⟨rfl,(mY.out _).2 (((mY.out W).1 hW).trans (h9.mono ((mY.out W).1 hW).size))⟩)
             |(go_simp;go_at_call 70;refine (Lo.tN HT.out.2.1 (HT.out.1.keep λd o h=>dP (G.out.1.trans (((mY.out W).1 hW).mono (by omega))) d o (by omega)) (by rw [List.length_take];omega)).mono ?_;rintro e w9 ⟨rfl,rfl⟩;rw [HH.out];exact ⟨rfl,hW⟩)
           clear hK K)
         |(refine hK _ ?_;clear hK K)
       refine wpQuiet_nil ?_
       clear hb;intro z3 hb;replace hb:=(mY.out _).1 hb;obtain ⟨f0,f1,f2,f3,f4,f5,f6,f7,f8,f9,f10⟩:=HC.out z3 hb;go_wp2;go_ret;exact ⟨by rw [HF.out.2 (by rw [<-HQ.out];simp), <-HQ.out];rfl,G.out.1.trans (hb.mono (by omega))⟩
      |false=>
       rw [hup,Bool.false_or] at hx;obtain rfl:=hu.1 hup;clear hu hup;cases TA:(s.ins.take k).contains p with
       |true=>
        rw [TA,aj rfl] at hx;have HQ:=dB hx;have HH:=dB TA;clear hx TA;go_wp2;refine jX (C:=Cl) Lo.mixed (by kernel_rfl) ((mY.out _).2 hb.drew) ?_
        repeat
         refine wpQuiet_step (λK hK=>?_);go_simp
         first
          |(apply Exists.intro;refine ⟨λW hW=>?_,hK _ ?_⟩
            ·obtain ⟨f0,f1,f2,f3,f4,f5,f6,f7,f8,f9,f10⟩:=HC.out W ((mY.out W).1 hW)
             first
              |rfl
              |(go_simp;rfl)
              |(go_simp;go_at_call 32;refine (Lo.IK (n:=i) jJ.out.1.symm (O1.out.keep λd o h=>dP (G.out.1.trans (((mY.out W).1 hW).mono (by omega))) d o (by omega)) (by have :=((mY.out W).1 hW).size;omega) hg (by omega)).mono ?_;rintro e w9 ⟨rfl,h9⟩;rw [HU.out];exact ⟨rfl,(mY.out _).2 (((mY.out W).1 hW).trans (h9.mono ((mY.out W).1 hW).size))⟩)
              |(go_simp;go_at_call 70;refine (Lo.tN HT.out.2.1 (HT.out.1.keep λd o h=>dP (G.out.1.trans (((mY.out W).1 hW).mono (by omega))) d o (by omega)) (by rw [List.length_take];omega)).mono ?_;rintro e w9 ⟨rfl,rfl⟩;rw [HH.out];exact ⟨rfl,hW⟩)
            clear hK K)
          |(refine hK _ ?_;clear hK K)
        refine wpQuiet_nil ?_
        clear hb;intro z3 hb;replace hb:=(mY.out _).1 hb;obtain ⟨f0,f1,f2,f3,f4,f5,f6,f7,f8,f9,f10⟩:=HC.out z3 hb;go_wp2;go_ret;exact ⟨by rw [HF.out.2 (by rw [<-HQ.out];simp), <-HQ.out];rfl,G.out.1.trans (hb.mono (by omega))⟩
       |false=>
        rw [TA,aa (by simp)] at hx;have HQ:=dB hx;have HH:=dB TA;clear hx TA;go_wp2;refine jX (C:=Cl) Lo.mixed (by kernel_rfl) ((mY.out _).2 hb.drew) ?_
        repeat
         refine wpQuiet_step (λK hK=>?_);go_simp
         first
          |(apply Exists.intro;refine ⟨λW hW=>?_,hK _ ?_⟩
            ·obtain ⟨f0,f1,f2,f3,f4,f5,f6,f7,f8,f9,f10⟩:=HC.out W ((mY.out W).1 hW)
             first
              |rfl
              |(go_simp;rfl)
              |(go_simp;go_at_call 32;refine (Lo.IK (n:=i) jJ.out.1.symm (O1.out.keep λd o h=>dP (G.out.1.trans (((mY.out W).1 hW).mono (by omega))) d o (by omega)) (by have :=((mY.out W).1 hW).size;omega) hg (by omega)).mono ?_;rintro e w9 ⟨rfl,h9⟩;rw [HU.out];exact ⟨rfl,(mY.out _).2 (((mY.out W).1 hW).trans (h9.mono ((mY.out W).1 hW).size))⟩)
              |(go_simp;go_at_call 70;refine (Lo.tN HT.out.2.1 (HT.out.1.keep λd o h=>dP (G.out.1.trans (((mY.out W).1 hW).mono (by omega))) d o (by omega)) (by rw [List.length_take];omega)).mono ?_;rintro e w9 ⟨rfl,rfl⟩;rw [HH.out];exact ⟨rfl,hW⟩)
            clear hK K)
          |(refine hK _ ?_;clear hK K)
        refine wpQuiet_nil ?_
        clear hb;intro z3 hb;replace hb:=(mY.out _).1 hb;obtain ⟨f0,f1,f2,f3,f4,f5,f6,f7,f8,f9,f10⟩:=HC.out z3 hb;go_wp2;go_roundw
        case rel=>exact ⟨k+1,by omega,by go_num,by rw [HT.out.2.2];exact HQ.out,hb⟩
        case measure=>simp [intOf];omega
   ·obtain rfl:k=s.ins.length:=by omega
    have JI:F1.1=0:=by rw [<-hx,aF];rfl
    obtain ⟨F2,hF2⟩:∃F2,kX b.dF.length s.outs (gP b i)=F2:=⟨_,rfl⟩;have av4:F2.1≠0->qf b i s=F2.1:= λh=>by unfold qf;rw [aa (by rw [HX.out];simp),HF.out.1,aa (by rw [JI];simp),hF2,aj h]
    have av5:F2.1=0->qf b i s=if fC s.g0 s.g1 0 1000000=false then 1 else if fC s.l0 s.l1 0 1000000=false then 1 else 0:= λh=>by unfold qf;rw [aa (by rw [HX.out];simp),HF.out.1,aa (by rw [JI];simp),hF2,aa (by rw [h];simp)]
    have HF:=dB (aM hF2 (aM av4 av5));clear hF2 av4 av5 JI hx
    have hC:∀W,Below Y.heap.size Y W->W.cell? ⟨w.heap.size,0,none⟩=some (.slice ah b.dR.length ch)∧W.cell? ⟨w.heap.size,1,none⟩=some (.slice ap b.dF.length cp)∧W.cell? ⟨w.heap.size,2,none⟩=some (.slice (some ⟨bb,off,none⟩) b.steps.length cs)∧W.cell? ⟨w.heap.size,3,none⟩=some (.slice ac b.dJ.length cc)∧W.cell? ⟨w.heap.size+1,1,none⟩=some (.slice a1 s.ins.length c1)∧W.cell? ⟨w.heap.size+1,2,none⟩=some (.slice a2 s.outs.length c2)∧W.cell? ⟨w.heap.size+1,3,none⟩=some (.int .i64 s.g0)∧W.cell? ⟨w.heap.size+1,4,none⟩=some (.int .i64 s.g1)∧W.cell? ⟨w.heap.size+1,5,none⟩=some (.int .i64 s.l0)∧W.cell? ⟨w.heap.size+1,6,none⟩=some (.int .i64 s.l1):= λW hW=>by
     have p1:=(hW.block w.heap.size (by omega)).trans G.out.2.1;have p2:=(hW.block (w.heap.size+1) (by omega)).trans G.out.2.2;exact ⟨cell_of p1 0,cell_of p1 1,cell_of p1 2,cell_of p1 3,cell_of p2 1,cell_of p2 2,cell_of p2 3,cell_of p2 4,cell_of p2 5,cell_of p2 6⟩
    have HC:=dB hC;clear hC;obtain ⟨f0,f1,f2,f3,f4,f5,f6,f7,f8,f9⟩:=HC.out wr hb;go_wp2
    go_loopw [7] (λix wx=>∃k:Nat,k<=s.outs.length∧ix= .int .i64 (k:Int)∧kX b.dF.length (s.outs.drop k) (gP b i++s.outs.take k)=F2∧Below Y.heap.size Y wx) (λix _=>s.outs.length - (intOf ix).toNat)
    case atStart=>exact ⟨0,bq _,rfl,by rw [List.drop_zero,List.take_zero,List.append_nil];exact HF.out.1,hb⟩
    case round=>
     clear hb f0 f1 f2 f3 f4 f5 f6 f7 f8 f9;obtain ⟨k,hk,rfl,hx,hb⟩:=hrel
     by_cases hlt:k<s.outs.length
     ·have hlt':(k:Int)<(s.outs.length:Int):=by omega
      have hkc:k<=c2:=by omega
      obtain ⟨ib,io,rfl,hib,hic⟩:=jJ.out.2.2 (by omega);have r:=TN hic hlt;have ht:Cn w B (some ⟨ib,io,none⟩) (s.outs.take k):=Ny hic hib (by omega);have htl:k=(s.outs.take k).length:=by rw [List.length_take];omega
      rw [Ib _ _ _ _ hlt] at hx;have htk:gP b i++s.outs.take (k+1)=gP b i++s.outs.take k++ [s.outs[k]]:=by rw [bB hlt,List.append_assoc]
      generalize s.outs[k]=p at r hx htk;rw [DF] at hx;have em:(gP b i).contains p=((b.steps.take i).map eY.outs).any λl=>l.contains p:=by unfold gP;rw [List.flatMap_def,tO]
      obtain ⟨fm,hfm⟩:∃fm,iA p ((b.steps.take i).map eY.outs) 0=fm:=⟨_,rfl⟩;have hm:((gP b i).contains p=false->fm= -1)∧((gP b i).contains p=true->∃n:Nat,fm=(n:Int)):=by rw [em, <-hfm];exact ⟨oz p _ _,oC p _ _⟩
      clear em HC;have HM:=dB hfm;have HT:=dB (aM ht (aM htl htk))
      have hC:∀W,Below Y.heap.size Y W->W.cell? ⟨w.heap.size,0,none⟩=some (.slice ah b.dR.length ch)∧W.cell? ⟨w.heap.size,1,none⟩=some (.slice ap b.dF.length cp)∧W.cell? ⟨w.heap.size,2,none⟩=some (.slice (some ⟨bb,off,none⟩) b.steps.length cs)∧W.cell? ⟨w.heap.size,3,none⟩=some (.slice ac b.dJ.length cc)∧W.cell? ⟨w.heap.size+1,1,none⟩=some (.slice a1 s.ins.length c1)∧W.cell? ⟨w.heap.size+1,2,none⟩=some (.slice (some ⟨ib,io,none⟩) s.outs.length c2)∧W.cell? ⟨w.heap.size+1,3,none⟩=some (.int .i64 s.g0)∧W.cell? ⟨w.heap.size+1,4,none⟩=some (.int .i64 s.g1)∧W.cell? ⟨w.heap.size+1,5,none⟩=some (.int .i64 s.l0)∧W.cell? ⟨w.heap.size+1,6,none⟩=some (.int .i64 s.l1)∧W.cell? ⟨ib,io+k,none⟩=some (.int .i64 p):= λW hW=>by
       have p1:=(hW.block w.heap.size (by omega)).trans G.out.2.1;have p2:=(hW.block (w.heap.size+1) (by omega)).trans G.out.2.2;exact ⟨cell_of p1 0,cell_of p1 1,cell_of p1 2,cell_of p1 3,cell_of p2 1,cell_of p2 2,cell_of p2 3,cell_of p2 4,cell_of p2 5,cell_of p2 6,(dP (G.out.1.trans (hW.mono (by omega))) ib _ (by omega)).trans r⟩
      have HC:=dB hC;clear hC;clear hfm hic r ht htl htk;obtain ⟨f0,f1,f2,f3,f4,f5,f6,f7,f8,f9,f10⟩:=HC.out wr hb;go_wp2;refine jX (C:=Cl) Lo.mixed (by kernel_rfl) ((mY.out _).2 hb.drew) ?_
      repeat
       refine wpQuiet_step (λK hK=>?_);go_simp
       first
        |(apply Exists.intro;refine ⟨λW hW=>?_,hK _ ?_⟩
          ·obtain ⟨f0,f1,f2,f3,f4,f5,f6,f7,f8,f9,f10⟩:=HC.out W ((mY.out W).1 hW)
           first
            |rfl
            |(go_simp;rfl)
            |(go_simp;go_at_call 54;refine (Lo.AA _ _ _ _).mono ?_;rintro e w9 ⟨rfl,rfl⟩;exact ⟨rfl,hW⟩)
          clear hK K)
        |(refine hK _ ?_;clear hK K)
      refine wpQuiet_nil ?_
      clear hb;intro z1 hb;replace hb:=(mY.out _).1 hb;obtain ⟨f0,f1,f2,f3,f4,f5,f6,f7,f8,f9,f10⟩:=HC.out z1 hb;cases hbp:nQ p 0 ((b.dF.length:Int) - 1) with
      |false=>
       rw [aj hbp] at hx;have HQ:=dB hx;clear hbp hx hm;go_wp2;go_ret;exact ⟨by rw [HF.out.2.1 (by rw [<-HQ.out];simp), <-HQ.out];rfl,G.out.1.trans (hb.mono (by omega))⟩
      |true=>
       rw [aa (by rw [hbp];simp)] at hx;clear hbp;cases hmp:(gP b i).contains p with
       |true=>
        rw [hmp,Bool.true_or,aj rfl] at hx;obtain ⟨nm,rfl⟩:=hm.2 hmp;have hfe:decide ((0:Int)<=(nm:Int))=true:=decide_eq_true (Int.natCast_nonneg nm);have HQ:=dB hx;clear hm hmp hx;go_wp2;refine jX (C:=Cl) Lo.mixed (by kernel_rfl) ((mY.out _).2 hb.drew) ?_
        repeat
         refine wpQuiet_step (λK hK=>?_);go_simp
         first
          |(apply Exists.intro;refine ⟨λW hW=>?_,hK _ ?_⟩
            ·obtain ⟨f0,f1,f2,f3,f4,f5,f6,f7,f8,f9,f10⟩:=HC.out W ((mY.out W).1 hW)
             first
              |rfl
              |(go_simp;rfl)
              |(go_simp;go_at_call 53;refine (Lo.xX (n:=i) jJ.out.1.symm (O1.out.keep λd o h=>dP (G.out.1.trans (((mY.out W).1 hW).mono (by omega))) d o (by omega)) (by have :=((mY.out W).1 hW).size;omega) hg (by omega)).mono ?_;rintro e w9 ⟨rfl,h9⟩;rw [HM.out];exact ⟨rfl,(mY.out _).2 (((mY.out W).1 hW).trans (h9.mono ((mY.out W).1 hW).size))⟩)
              |(go_simp;go_at_call 70;refine (Lo.tN HT.out.2.1 (HT.out.1.keep λd o h=>dP (G.out.1.trans (((mY.out W).1 hW).mono (by omega))) d o (by omega)) (by rw [List.length_take];omega)).mono ?_;rintro e w9 ⟨rfl,rfl⟩;rw [HH.out];exact ⟨rfl,hW⟩)
            clear hK K)
          |(refine hK _ ?_;clear hK K)
        refine wpQuiet_nil ?_
        clear hb;intro z2 hb;replace hb:=(mY.out _).1 hb;obtain ⟨f0,f1,f2,f3,f4,f5,f6,f7,f8,f9,f10⟩:=HC.out z2 hb;go_wp2;go_ret;exact ⟨by rw [HF.out.2.1 (by rw [<-HQ.out];simp), <-HQ.out];rfl,G.out.1.trans (hb.mono (by omega))⟩
       |false=>
        rw [hmp,Bool.false_or] at hx;obtain rfl:=hm.1 hmp;clear hm hmp;cases TA:(s.outs.take k).contains p with
        |true=>
         rw [TA,aj rfl] at hx;have HQ:=dB hx;have HH:=dB TA;clear hx TA;go_wp2;refine jX (C:=Cl) Lo.mixed (by kernel_rfl) ((mY.out _).2 hb.drew) ?_
         repeat
          refine wpQuiet_step (λK hK=>?_);go_simp
          first
           |(apply Exists.intro;refine ⟨λW hW=>?_,hK _ ?_⟩
             ·obtain ⟨f0,f1,f2,f3,f4,f5,f6,f7,f8,f9,f10⟩:=HC.out W ((mY.out W).1 hW)
              first
               |rfl
               |(go_simp;rfl)
               |(go_simp;go_at_call 53;refine (Lo.xX (n:=i) jJ.out.1.symm (O1.out.keep λd o h=>dP (G.out.1.trans (((mY.out W).1 hW).mono (by omega))) d o (by omega)) (by have :=((mY.out W).1 hW).size;omega) hg (by omega)).mono ?_;rintro e w9 ⟨rfl,h9⟩;rw [HM.out];exact ⟨rfl,(mY.out _).2 (((mY.out W).1 hW).trans (h9.mono ((mY.out W).1 hW).size))⟩)
               |(go_simp;go_at_call 70;refine (Lo.tN HT.out.2.1 (HT.out.1.keep λd o h=>dP (G.out.1.trans (((mY.out W).1 hW).mono (by omega))) d o (by omega)) (by rw [List.length_take];omega)).mono ?_;rintro e w9 ⟨rfl,rfl⟩;rw [HH.out];exact ⟨rfl,hW⟩)
             clear hK K)
           |(refine hK _ ?_;clear hK K)
         refine wpQuiet_nil ?_
         clear hb;intro z2 hb;replace hb:=(mY.out _).1 hb;obtain ⟨f0,f1,f2,f3,f4,f5,f6,f7,f8,f9,f10⟩:=HC.out z2 hb;go_wp2;go_ret;exact ⟨by rw [HF.out.2.1 (by rw [<-HQ.out];simp), <-HQ.out];rfl,G.out.1.trans (hb.mono (by omega))⟩
        |false=>
         rw [TA,aa (by simp)] at hx;have HQ:=dB hx;have HH:=dB TA;clear hx TA;go_wp2;refine jX (C:=Cl) Lo.mixed (by kernel_rfl) ((mY.out _).2 hb.drew) ?_
         repeat
          refine wpQuiet_step (λK hK=>?_);go_simp
          first
           |(apply Exists.intro;refine ⟨λW hW=>?_,hK _ ?_⟩
             ·obtain ⟨f0,f1,f2,f3,f4,f5,f6,f7,f8,f9,f10⟩:=HC.out W ((mY.out W).1 hW)
              first
               |rfl
               |(go_simp;rfl)
               |(go_simp;go_at_call 53;refine (Lo.xX (n:=i) jJ.out.1.symm (O1.out.keep λd o h=>dP (G.out.1.trans (((mY.out W).1 hW).mono (by omega))) d o (by omega)) (by have :=((mY.out W).1 hW).size;omega) hg (by omega)).mono ?_;rintro e w9 ⟨rfl,h9⟩;rw [HM.out];exact ⟨rfl,(mY.out _).2 (((mY.out W).1 hW).trans (h9.mono ((mY.out W).1 hW).size))⟩)
               |(go_simp;go_at_call 70;refine (Lo.tN HT.out.2.1 (HT.out.1.keep λd o h=>dP (G.out.1.trans (((mY.out W).1 hW).mono (by omega))) d o (by omega)) (by rw [List.length_take];omega)).mono ?_;rintro e w9 ⟨rfl,rfl⟩;rw [HH.out];exact ⟨rfl,hW⟩)
             clear hK K)
           |(refine hK _ ?_;clear hK K)
         refine wpQuiet_nil ?_
         clear hb;intro z2 hb;replace hb:=(mY.out _).1 hb;obtain ⟨f0,f1,f2,f3,f4,f5,f6,f7,f8,f9,f10⟩:=HC.out z2 hb;go_wp2;go_roundw
         case rel=>exact ⟨k+1,by omega,by go_num,by rw [HT.out.2.2];exact HQ.out,hb⟩
         case measure=>simp [intOf];omega
     ·obtain rfl:k=s.outs.length:=by omega
      have JI:F2.1=0:=by rw [<-hx,aF];rfl
      have HR:=dB (HF.out.2.2 JI);clear hx JI;obtain ⟨f0,f1,f2,f3,f4,f5,f6,f7,f8,f9⟩:=HC.out wr hb;go_wp2;refine (Lo.Lh _ _ _ _ _).mono ?_
      rintro e w8 ⟨rfl,h8⟩;replace hb:=hb.trans (h8.mono hb.size);clear h8 f0 f1 f2 f3 f4 f5 f6 f7 f8 f9;obtain ⟨f0,f1,f2,f3,f4,f5,f6,f7,f8,f9⟩:=HC.out w8 hb;cases hg1:fC s.g0 s.g1 0 1000000 with
      |false=>
       rw [aj hg1] at HR;have HH:=dB hb;clear hb;go_wp2;go_ret;exact ⟨by rw [HR.out];rfl,G.out.1.trans (HH.out.mono (by omega))⟩
      |true=>
       rw [aa (by rw [hg1];simp)] at HR;go_wp2;refine (Lo.Lh _ _ _ _ _).mono ?_
       rintro e w9 ⟨rfl,h8⟩;replace hb:=hb.trans (h8.mono hb.size);have HH:=dB hb;clear h8 hb;cases hg2:fC s.l0 s.l1 0 1000000 with
       |false=>
        rw [aj hg2] at HR;go_wp2;go_ret;exact ⟨by rw [HR.out];rfl,G.out.1.trans (HH.out.mono (by omega))⟩
       |true=>
        rw [aa (by rw [hg2];simp)] at HR;go_wp2;go_ret;exact ⟨by rw [HR.out];rfl,G.out.1.trans (HH.out.mono (by omega))⟩
end
end Go.Proofs
