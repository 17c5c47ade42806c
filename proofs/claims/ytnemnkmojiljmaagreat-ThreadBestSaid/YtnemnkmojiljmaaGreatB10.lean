/- Part 10. -/
import Derived.Laws.StructEq
import Derived.Test.YtnemnkmojiljmaaGreatB04
import Derived.Test.YtnemnkmojiljmaaGreatB09
set_option maxRecDepth 100000
set_option maxHeartbeats 0
set_option linter.all false
namespace Go.Proofs
open Go Go.RowKit Go.Maps
section
def tK (l:List Obj) (w:World):World:=l.foldl (λw o=>w.alloc o) w
theorem vz:∀(l:List Obj) (w:World),(tK l w).heap.size=w.heap.size+l.length
 | [],w=>rfl
 |o::l,w=>by
  show (tK l (w.alloc o)).heap.size=_;rw [vz l,show (w.alloc o).heap.size=w.heap.size+1 from Array.size_push ..];simp;omega
theorem Fz:∀(l:List Obj) (w:World) (b:Nat),b<w.heap.size->(tK l w).heap[b]?=w.heap[b]?
 | [],w,b,_=>rfl
 |o::l,w,b,h=>by
  show (tK l (w.alloc o)).heap[b]?=_
  rw [Fz l _ b (by rw [show (w.alloc o).heap.size=w.heap.size+1 from Array.size_push ..];omega)];exact cZ _ _ _ h
theorem mO:∀(l:List Obj) (w:World) (k:Nat),k<l.length->(tK l w).heap[w.heap.size+k]?=l[k]?
 | [],w,k,h=>by simp at h
 |o::l,w,0,h=>by
  show (tK l (w.alloc o)).heap[w.heap.size]?=_
  rw [Fz l _ _ (by rw [show (w.alloc o).heap.size=w.heap.size+1 from Array.size_push ..];omega)];show (w.heap.push o)[w.heap.size]?=some o
  simp
 |o::l,w,k+1,h=>by
  show (tK l (w.alloc o)).heap[w.heap.size+(k+1)]?=_
  have :=mO l (w.alloc o) k (by simpa using h);rw [show (w.alloc o).heap.size=w.heap.size+1 from Array.size_push ..] at this;rw [show w.heap.size+(k+1)=w.heap.size+1+k from by omega,this];rfl
theorem oZ (l:List Obj):∀w:World,Below w.heap.size w (tK l w):=by
 induction l with
 |nil=>exact λw=>di _ _
 |cons o l ih=>exact λw=>((di _ _).alloc (aJ _) o).trans ((ih (w.alloc o)).mono (by rw [show (w.alloc o).heap.size=w.heap.size+1 from Array.size_push ..];omega))
def wm:fe where
 eO:=[⟨#[97,110,97]⟩,⟨#[114,117,105]⟩]
 dO:=[⟨#[102,108,111,119,101,114,115]⟩,⟨#[114,101,100]⟩,⟨#[121,101,108,108,111,119]⟩,⟨#[109,111,114,101]⟩,⟨#[116,105,110]⟩]
 steps:=[⟨0,[],[0],100,120,0,0⟩,⟨0,[0],[1,2],0,0,0,10⟩,⟨1,[],[3],5,5,0,0⟩,⟨1,[1,3],[4],0,0,0,2⟩]
 dR:=[⟨0,105,110⟩,⟨2,90,90⟩,⟨4,14,16⟩]
def Wh (n:Nat):jR where
 ah:=some ⟨n+1,0,none⟩
 ch:=2
 ap:=some ⟨n+2,0,none⟩
 cp:=5
 lT:=some ⟨n+13,0,none⟩
 cs:=4
 ac:=some ⟨n+17,0,none⟩
 cc:=3
 sv:= λi=>match i with
  |0=>⟨none,0,some ⟨n+3,0,none⟩,1⟩
  |1=>⟨some ⟨n+5,0,none⟩,1,some ⟨n+6,0,none⟩,2⟩
  |2=>⟨none,0,some ⟨n+8,0,none⟩,1⟩
  |_=>⟨some ⟨n+10,0,none⟩,2,some ⟨n+11,0,none⟩,1⟩
def Nk (n:Nat):List Obj:=
 [.cells #[.slice (some ⟨n+1,0,none⟩) 2 2,.slice (some ⟨n+2,0,none⟩) 5 5,.slice (some ⟨n+13,0,none⟩) 4 4,.slice (some ⟨n+17,0,none⟩) 3 3] 26,
  .cells #[.string ⟨#[97,110,97]⟩,.string ⟨#[114,117,105]⟩] 9,
  .cells #[.string ⟨#[102,108,111,119,101,114,115]⟩,.string ⟨#[114,101,100]⟩,.string ⟨#[121,101,108,108,111,119]⟩,.string ⟨#[109,111,114,101]⟩,.string ⟨#[116,105,110]⟩] 9,
  .cells #[.int .i64 0] 3,.cells #[.int .i64 100,.int .i64 120] 51,.cells #[.int .i64 0] 3,.cells #[.int .i64 1,.int .i64 2] 3,.cells #[.int .i64 0,.int .i64 10] 51,.cells #[.int .i64 3] 3,.cells #[.int .i64 5,.int .i64 5] 51,
  .cells #[.int .i64 1,.int .i64 3] 3,.cells #[.int .i64 4] 3,.cells #[.int .i64 0,.int .i64 2] 51,
  .cells #[.int .i64 0,.slice none 0 0,.slice (some ⟨n+3,0,none⟩) 1 1,.int .i64 100,.int .i64 120,.int .i64 0,.int .i64 0,.int .i64 0,.slice (some ⟨n+5,0,none⟩) 1 1,.slice (some ⟨n+6,0,none⟩) 2 2,.int .i64 0,.int .i64 0,.int .i64 0,.int .i64 10,
    .int .i64 1,.slice none 0 0,.slice (some ⟨n+8,0,none⟩) 1 1,.int .i64 5,.int .i64 5,.int .i64 0,.int .i64 0,.int .i64 1,.slice (some ⟨n+10,0,none⟩) 2 2,.slice (some ⟨n+11,0,none⟩) 1 1,.int .i64 0,.int .i64 0,.int .i64 0,.int .i64 2] 53,
  .cells #[.int .i64 105,.int .i64 110] 51,.cells #[.int .i64 90,.int .i64 90] 51,.cells #[.int .i64 14,.int .i64 16] 51,
  .cells #[.int .i64 0,.int .i64 105,.int .i64 110,.int .i64 2,.int .i64 90,.int .i64 90,.int .i64 4,.int .i64 14,.int .i64 16] 59]
variable [Lo.St]
theorem Lo.BV (a b:Int) (w:World):Calls Lo.prog 30 #[.int .i64 a,.int .i64 b] w λe w'=>e= .returned (.agg #[.int .i64 a,.int .i64 b])∧w'=w.alloc (.cells #[.int .i64 a,.int .i64 b] 51):=by
 obtain ⟨U,U2,U3,U4,U5,U6⟩:=Lo.facts;go_enter Lo.func30,Tryz.ntmps30;go_wp2;exact bodyPost_ret (v:=.agg #[.int .i64 a,.int .i64 b]) (by simp [results,Tryz.results10,go_sem,U,U2,U3,U4,U5,U6]) rfl ⟨rfl,rfl⟩
theorem Lo.K8 (w:World):Calls Lo.prog 42 #[] w λe w'=>e= .returned (fJ wm (Wh w.heap.size))∧w'=tK (Nk w.heap.size) w:=by
 obtain ⟨U,U2,U3,U4,U5,U6⟩:=Lo.facts;have C:=Lo.call30;go_enter Lo.func42,Tryz.ntmps42
 go_wp2_with (go_at_call 30;refine (Lo.BV _ _ _).mono ?_;rintro e w1 ⟨rfl,rfl⟩)
 have hf:Tryz.f42.results= #[ResultVar.cell 0 26]:=by unfold Tryz.f42;rfl
 obtain ⟨n,hn⟩:∃n,n=w.heap.size:=⟨_,rfl⟩
 have hW:∀(T:List Value) (W:World),W=tK (Nk w.heap.size) w->(results Tryz.f42 (Value.pointer (some ⟨w.heap.size,0,none⟩)::T).toArray).run Lo.prog W= .ok (fJ wm (Wh w.heap.size)) W:=by
  intro T W hW
  have h0:W.heap[w.heap.size]?=some (.cells #[.slice (some ⟨w.heap.size+1,0,none⟩) 2 2,.slice (some ⟨w.heap.size+2,0,none⟩) 5 5,.slice (some ⟨w.heap.size+13,0,none⟩) 4 4,.slice (some ⟨w.heap.size+17,0,none⟩) 3 3] 26):=by
   rw [hW];exact mO (Nk w.heap.size) w 0 (by simp [Nk])
  have c0:W.cell? ⟨w.heap.size,0,none⟩=some (.slice (some ⟨w.heap.size+1,0,none⟩) 2 2):=by unfold World.cell?;simp only [h0];rfl
  have c1:W.cell? ⟨w.heap.size,1,none⟩=some (.slice (some ⟨w.heap.size+2,0,none⟩) 5 5):=by unfold World.cell?;simp only [h0];rfl
  have c2:W.cell? ⟨w.heap.size,2,none⟩=some (.slice (some ⟨w.heap.size+13,0,none⟩) 4 4):=by unfold World.cell?;simp only [h0];rfl
  have c3:W.cell? ⟨w.heap.size,3,none⟩=some (.slice (some ⟨w.heap.size+17,0,none⟩) 3 3):=by unfold World.cell?;simp only [h0];rfl
  clear hW h0;simp [results,hf,go_sem,U,U2,U3,U4,U5,U6,c0,c1,c2,c3,fJ,wm,Wh]
 refine bodyPost_ret (v:=fJ wm (Wh w.heap.size)) ?_ rfl ⟨rfl,?_⟩
 ·exact hW _ _ rfl
 ·rfl
end
section
theorem sI {W:World} {n:Nat} (h:∀k,k<18->W.heap[n+k]?=(Nk n)[k]?) (k:Nat) (hk:k<18) (c:Array Value) (e:TypeId) (hc:(Nk n)[k]?=some (.cells c e)) (o:Nat):W.cell? ⟨n+k,o,none⟩=c[o]?:=by
 have :=(h k hk).trans hc;unfold World.cell?;simp only [this];cases c[o]?<;>rfl
theorem JP {W:World} {n B:Nat} (h:∀k,k<18->W.heap[n+k]?=(Nk n)[k]?) (hB:n+18<=B):gH W B wm (Wh n):=by
 refine ⟨λ_=>⟨n+1,0,rfl,by omega, λi j hi hj=>?_⟩, λ_=>⟨n+2,0,rfl,by omega, λi j hi hj=>?_⟩, λ_=>⟨n+13,0,rfl,by omega, λi j hi hj=>?_⟩, λi s hs=>?_, λi s hs=>?_, λ_=>⟨n+17,0,rfl,by omega, λi j hi hj=>?_⟩,aJ _,aJ _,aJ _,aJ _⟩
 ·rw [sI h 1 (by omega) _ _ rfl];have hi:i<2:=hi;obtain rfl:j=0:=by omega
  obtain rfl|rfl:i=0∨i=1:=by omega
  all_goals rfl
 ·rw [sI h 2 (by omega) _ _ rfl];have hi:i<5:=hi;obtain rfl:j=0:=by omega
  obtain rfl|rfl|rfl|rfl|rfl:i=0∨i=1∨i=2∨i=3∨i=4:=by omega
  all_goals rfl
 ·rw [sI h 13 (by omega) _ _ rfl];have hi:i<4:=hi;obtain rfl|rfl|rfl|rfl:i=0∨i=1∨i=2∨i=3:=by omega
  all_goals obtain rfl|rfl|rfl|rfl|rfl|rfl|rfl:j=0∨j=1∨j=2∨j=3∨j=4∨j=5∨j=6:=by omega
  all_goals rfl
 ·have hi:i<4:=(aZ.1 hs).1;obtain rfl|rfl|rfl|rfl:i=0∨i=1∨i=2∨i=3:=by omega
  ·cases hs;exact λh=>absurd h (by decide)
  ·cases hs;refine λ_=>⟨n+5,0,rfl,by omega, λi j hi hj=>?_⟩
   rw [sI h 5 (by omega) _ _ rfl];have hi:i<1:=hi;obtain rfl:j=0:=by omega
   obtain rfl:i=0:=by omega
   rfl
  ·cases hs;exact λh=>absurd h (by decide)
  ·cases hs;refine λ_=>⟨n+10,0,rfl,by omega, λi j hi hj=>?_⟩
   rw [sI h 10 (by omega) _ _ rfl];have hi:i<2:=hi;obtain rfl:j=0:=by omega
   obtain rfl|rfl:i=0∨i=1:=by omega
   all_goals rfl
 ·have hi:i<4:=(aZ.1 hs).1;obtain rfl|rfl|rfl|rfl:i=0∨i=1∨i=2∨i=3:=by omega
  ·cases hs;refine λ_=>⟨n+3,0,rfl,by omega, λi j hi hj=>?_⟩
   rw [sI h 3 (by omega) _ _ rfl];have hi:i<1:=hi;obtain rfl:j=0:=by omega
   obtain rfl:i=0:=by omega
   rfl
  ·cases hs;refine λ_=>⟨n+6,0,rfl,by omega, λi j hi hj=>?_⟩
   rw [sI h 6 (by omega) _ _ rfl];have hi:i<2:=hi;obtain rfl:j=0:=by omega
   obtain rfl|rfl:i=0∨i=1:=by omega
   all_goals rfl
  ·cases hs;refine λ_=>⟨n+8,0,rfl,by omega, λi j hi hj=>?_⟩
   rw [sI h 8 (by omega) _ _ rfl];have hi:i<1:=hi;obtain rfl:j=0:=by omega
   obtain rfl:i=0:=by omega
   rfl
  ·cases hs;refine λ_=>⟨n+11,0,rfl,by omega, λi j hi hj=>?_⟩
   rw [sI h 11 (by omega) _ _ rfl];have hi:i<1:=hi;obtain rfl:j=0:=by omega
   obtain rfl:i=0:=by omega
   rfl
 ·rw [sI h 17 (by omega) _ _ rfl];have hi:i<3:=hi;obtain rfl|rfl|rfl:i=0∨i=1∨i=2:=by omega
  all_goals obtain rfl|rfl|rfl:j=0∨j=1∨j=2:=by omega
  all_goals rfl
theorem FB:gL wm=0:=by kernel_rfl
theorem FC:vU wm=true:=by kernel_rfl
theorem Tg:uG wm= [105,110,9,13,90,90,5,5,14,16,105,110,0,0,0,0,2,10,5,5,0,0,0,0,0,2]:=by kernel_rfl
theorem WG:BU wm= [0,0,2,10,0,0,0,2]:=by kernel_rfl
theorem K9:C9 wm 1= [1,0]:=by kernel_rfl
theorem Ti:∀h:Nat,h<wm.eO.length->jC (fM wm h) (eY wm h)=true:= λh hh=>by
 have hh:h<2:=hh;have h0:jC (fM wm ((0:Nat):Int)) (eY wm ((0:Nat):Int))=true:=by kernel_rfl
 have h1:jC (fM wm ((1:Nat):Int)) (eY wm ((1:Nat):Int))=true:=by kernel_rfl
 obtain rfl|rfl:h=0∨h=1:=by omega
 ·exact h0
 ·exact h1
def oJ:fe:={ wm with dR:=wm.dR++ [⟨1,14,20⟩] }
theorem IB:gL oJ=0:=by kernel_rfl
theorem Ql:JO oJ=3:=by kernel_rfl
theorem FD:wm.small:=⟨by decide,by decide,by decide,by decide,by decide,by decide⟩
theorem IC:oJ.small:=⟨by decide,by decide,by decide,by decide,by decide,by decide⟩
end
section
variable [Lo.St]
theorem JQ {l m:List Int} {k:Nat} (h1:k<l.length) (h2:k<m.length):(l.drop k=m.drop k)↔(l[k]=m[k]∧l.drop (k+1)=m.drop (k+1)):=by
 rw [aW h1,aW h2];exact List.cons_eq_cons
theorem Lo.Tk {w:World} {B:Nat} {A1 A2:Option Addr} {l1 l2:List Int} {c1 c2:Nat} (h1:BJ w B A1 l1) (h2:BJ w B A2 l2) (hl1:l1.length<=64) (hl2:l2.length<=64) (hB:B<=w.heap.size):
 Calls Lo.prog 39 #[.slice A1 l1.length c1,.slice A2 l2.length c2] w λe w'=>e= .returned (.bool (decide (l1=l2)))∧Below w.heap.size w w':=by
 obtain ⟨U,U2,U3,U4,U5,U6⟩:=Lo.facts
 by_cases hlen:l1.length=l2.length
 ·have d1:((l1.length:Int) !=(l2.length:Int))=false:=by simp;omega
  have HL:=dw hlen;clear hlen;go_enter Lo.func39,Tryz.ntmps39;go_wp2
  go_loopw [5] (λi wr=>∃k:Nat,k<=l1.length∧i= .int .i64 (k:Int)∧decide (l1.drop k=l2.drop k)=decide (l1=l2)∧Below w.heap.size w wr) (λi _=>l1.length - (intOf i).toNat)
  case atStart=>exact ⟨0,bn _,rfl,rfl,di _ _⟩
  case round=>
   obtain ⟨k,hk,rfl,hx,hb⟩:=hrel
   by_cases hlt:k<l1.length
   ·have hlt2:k<l2.length:=HL.out ▸ hlt;have hlt':(k:Int)<(l1.length:Int):=by omega
    have aj2:(k:Int)<(l2.length:Int):=by omega
    obtain ⟨b1,o1,rfl,hb1,hc1⟩:=(h1.keep λb o h=>dU hb b o (by omega)) (by omega);obtain ⟨b2,o2,rfl,hb2,hc2⟩:=(h2.keep λb o h=>dU hb b o (by omega)) (by omega);have r1:=Wd hc1 hlt;have r2:=Wd hc2 hlt2;have hd:decide (l1.drop k=l2.drop k)=decide (l1[k]=l2[k]∧l1.drop (k+1)=l2.drop (k+1)):=decide_eq_decide.2 (JQ hlt hlt2);rw [hx] at hd;have HB:=dw hb;clear hc1 hc2 h1 h2 hx hb;generalize l1[k]=x at r1 hd;generalize l2[k]=y at r2 hd
    by_cases hq:x=y
    ·have d3:(x !=y)=false:=by simpa using hq
     have HD:=dw hd;have HQ:=dw hq;clear hd hq;go_wp2
     go_region
     all_goals go_wp2
     go_roundw
     case rel=>exact ⟨k+1,by omega,by go_num,by rw [HD.out,HQ.out];simp,HB.out.drew⟩
     case measure=>simp [intOf];omega
    ·have d3:(x !=y)=true:=by simpa using hq
     have HD:=dw hd;have HQ:=dw hq;clear hd hq;go_wp2
     go_region
     all_goals go_wp2
     go_ret;exact ⟨by rw [HD.out];simp [HQ.out],HB.out.drew⟩
   ·obtain rfl:k=l1.length:=by omega
    have e1:decide (l1=l2)=true:=by
     rw [<-hx,aF,HL.out,aF];rfl
    have HX:=dw (aM e1 hb);clear hx e1 hb;go_wp2;go_ret;exact ⟨by rw [HX.out.1];rfl,HX.out.2⟩
 ·have d1:((l1.length:Int) !=(l2.length:Int))=true:=by simp;omega
  have e1:decide (l1=l2)=false:=by
   simp;intro e;exact hlen (by rw [e])
  have HX:=dw e1;clear e1 hlen;go_enter Lo.func39,Tryz.ntmps39;go_wp2;go_ret;exact ⟨by rw [HX.out];rfl,di _ _⟩
attribute [local instance] Par.noSh
theorem wK (c:Code):Par.Alike Tryz.prog (Tryz.prog.stub 14 c):=.inr ⟨14,c,Tryz.f14.body.getD .skip,Tryz.f14,Tryz.func14,by unfold Tryz.f14;rfl,rfl⟩
theorem wM (c c':Code):Par.Alike (Tryz.prog.stub 14 c) ((Tryz.prog.stub 14 c).stub 28 c'):=.inr ⟨28,c',Tryz.f28.body.getD .skip,Tryz.f28,Par.uj _ _ _ Tryz.func28 (by decide),by unfold Tryz.f28;rfl,rfl⟩
theorem WH:Tryz.prog.eqGuardType Tryz.prog.depth 51=false:=by kernel_rfl
theorem WI:Tryz.prog.stoodInHeld 51=false:=by kernel_rfl
theorem WJ:Tryz.prog.underlying 51=some (.struct (Tryz.prog.fieldsOf 51)):=by kernel_rfl
theorem Lo.as8:Lo.prog.eqGuardType Lo.prog.depth 51=false:=by
 rw [Lo.jB,(wM _ _).depth,(wK _).depth,(wM _ _).eqGuardType,(wK _).eqGuardType];exact WH
theorem Lo.as9:Lo.prog.stoodInHeld 51=false:=by
 rw [Lo.jB,(wM _ _).stoodInHeld,(wK _).stoodInHeld];exact WI
theorem Lo.ak2:Lo.prog.fieldsOf 51=Tryz.prog.fieldsOf 51:=by
 unfold Program.fieldsOf;rw [Lo.jB,(wM _ _).underlying,(wK _).underlying]
theorem Lo.at0:Lo.prog.underlying 51=some (.struct (Lo.prog.fieldsOf 51)):=by
 rw [Lo.ak2,Lo.jB,(wM _ _).underlying,(wK _).underlying];exact WJ
abbrev ZN (w:World) (B:Nat) (A:Option Addr) (n:Nat) (l:List Int):Prop:=Rd w B 2 A n λi j=>.int .i64 ((l[2*i+j]?).getD 0)
def AQ (l:List Int) (k:Nat):Int×Int:=((l[2*k]?).getD 0,(l[2*k+1]?).getD 0)
def FE (l m:List Int) (n:Nat):Nat->Bool
 |0=>true
 |k+1=>if AQ l (n - (k+1))=AQ m (n - (k+1)) then FE l m n k else false
def Tm (l m:List Int) (n:Nat):Bool:=FE l m n n
theorem Lo.zX {w:World} {B:Nat} {A1 A2:Option Addr} {l1 l2:List Int} {n c1 c2:Nat} (h1:ZN w B A1 n l1) (h2:ZN w B A2 n l2) (hn:n<=64) (hB:B<=w.heap.size):
 Calls Lo.prog 19 #[.slice A1 n c1,.slice A2 n c2] w λe w'=>e= .returned (.bool (Tm l1 l2 n))∧Below w.heap.size w w':=by
 obtain ⟨U,U2,U3,U4,U5,U6⟩:=Lo.facts;have d1:((n:Int) !=(n:Int))=false:=by simp
 have e1:=(@Lo.as8 inferInstance);have e2:=(@Lo.at0 inferInstance);have e3:=(@Lo.as9 inferInstance);have e4:=(@Lo.ak2 inferInstance);go_enter Lo.func19,Tryz.ntmps19;go_wp2
 go_loopw [5] (λi wr=>∃k:Nat,k<=n∧i= .int .i64 (k:Int)∧FE l1 l2 n (n - k)=Tm l1 l2 n∧Below w.heap.size w wr) (λi _=>n - (intOf i).toNat)
 case atStart=>exact ⟨0,bn _,rfl,rfl,di _ _⟩
 case round=>
  obtain ⟨k,hk,rfl,hx,hb⟩:=hrel
  by_cases hlt:k<n
  ·have hlt':(k:Int)<(n:Int):=by omega
   obtain ⟨b1,o1,rfl,hb1,hc1⟩:=(h1.keep λb o h=>dU hb b o (by omega)) (by omega);obtain ⟨b2,o2,rfl,hb2,hc2⟩:=(h2.keep λb o h=>dU hb b o (by omega)) (by omega);have r1:=hc1 k 0 hlt (by omega);have r1':=hc1 k 1 hlt (by omega);have r2:=hc2 k 0 hlt (by omega);have r2':=hc2 k 1 hlt (by omega)
   have hd:FE l1 l2 n (n - k)=if AQ l1 k=AQ l2 k then FE l1 l2 n (n - (k+1)) else false:=by
    rw [show n - k=(n - (k+1))+1 from by omega];show (if AQ l1 (n - (n - (k+1)+1))=AQ l2 (n - (n - (k+1)+1)) then _ else _)=_;rw [show n - (n - (k+1)+1)=k from by omega]
   rw [hx] at hd;have HB:=dw hb;unfold AQ at hd;clear hc1 hc2 h1 h2 hx hb;simp only [aH, <-Nat.add_assoc] at r1 r2 r1' r2';generalize (l1[2*k]?).getD 0=x at r1 hd;generalize (l1[2*k+1]?).getD 0=x' at r1' hd;generalize (l2[2*k]?).getD 0=y at r2 hd;generalize (l2[2*k+1]?).getD 0=y' at r2' hd
   by_cases hq:x=y
   ·subst hq
    by_cases hq':x'=y'
    ·subst hq';rw [aj rfl] at hd;have HD:=dw hd;clear hd;go_wp2
     go_region
     all_goals go_wp2
     go_roundw
     case rel=>exact ⟨k+1,by omega,by go_num,by rw [HD.out],HB.out.drew⟩
     case measure=>simp [intOf];omega
    ·rw [aa (by simp [hq'])] at hd;have d3:(x'==y')=false:=by simpa using hq'
     have HD:=dw hd;clear hd;go_wp2
     go_region
     all_goals go_wp2
     go_ret;exact ⟨by rw [HD.out];rfl,HB.out.drew⟩
   ·rw [aa (by simp [hq])] at hd;have d3:(x==y)=false:=by simpa using hq
    have HD:=dw hd;clear hd;go_wp2
    go_region
    all_goals go_wp2
    go_ret;exact ⟨by rw [HD.out];rfl,HB.out.drew⟩
  ·obtain rfl:k=n:=by omega
   have e1:Tm l1 l2 k=true:=by
    rw [<-hx,Nat.sub_self];rfl
   have HX:=dw (aM e1 hb);clear hx e1 hb;go_wp2;go_ret;exact ⟨by rw [HX.out.1];rfl,HX.out.2⟩
end
section
variable [Lo.St]
theorem Lo.Tn (a b:Int) (ha:0<=a∧a<=1000000000) (hb:1<=b∧b<=1000000000) (w:World):Calls Lo.prog 73 #[.int .i64 a,.int .i64 b] w λe w'=>e= .returned (.int .i64 ((a+b - 1) / b))∧w'=w:=by
 obtain ⟨U,U2,U3,U4,U5,U6⟩:=Lo.facts;obtain ⟨a1,a2⟩:=ha;obtain ⟨b1,b2⟩:=hb;have hb0:b≠0:=by omega
 go_enter Lo.func73,Tryz.ntmps73;go_wp2;go_ret;exact ⟨rfl,rfl⟩
def zP (l:List Int) (a:Int):Int:=l.foldl max a
theorem IE (l:List Int) (k:Nat) (a:Int) (h:k<l.length):zP (l.drop k) a=zP (l.drop (k+1)) (max a l[k]):=by
 rw [aW h];rfl
theorem Lo.WL {w:World} {B:Nat} {A:Option Addr} {l:List Int} {c:Nat} (h:BJ w B A l) (hl:0<l.length) (hl2:l.length<=64) (hB:B<=w.heap.size):
 Calls Lo.prog 74 #[.slice A l.length c] w λe w'=>e= .returned (.int .i64 (zP l ((l[0]?).getD 0)))∧Below w.heap.size w w':=by
 obtain ⟨U,U2,U3,U4,U5,U6⟩:=Lo.facts;obtain ⟨bb,off,rfl,hbb,hc⟩:=h hl;have r0:=Wd hc hl;have hl':¬(l.length:Int)<1:=by omega
 have hl3:(0:Int)<(l.length:Int):=by omega
 have e0:(l[0]?).getD 0=l[0]:=by rw [aO hl];rfl
 have hm:zP (l.drop 1) l[0]=zP l ((l[0]?).getD 0):=by
  have :=IE l 0 l[0] hl;rw [List.drop_zero] at this;rw [e0,this];simp
 generalize l[0]=x0 at r0 hm;have HM:=dw hm;have HC:=dw hc;clear hm hc e0;simp only [aH] at r0;go_enter Lo.func74,Tryz.ntmps74;go_wp2
 go_loopw [3,4] (λi j wr=>∃(k:Nat) (x:Int),1<=k∧k<=l.length∧i= .int .i64 x∧j= .int .i64 (k:Int)∧zP (l.drop k) x=zP l ((l[0]?).getD 0)∧Below w.heap.size w wr) (λ_ j _=>l.length - (intOf j).toNat)
 case atStart=>exact ⟨1,x0,by omega,by omega,rfl,rfl,HM.out,di _ _⟩
 case round=>
  obtain ⟨k,x,hk1,hk,rfl,rfl,hx,hb⟩:=hrel
  by_cases hlt:k<l.length
  ·have hlt':(k:Int)<(l.length:Int):=by omega
   have r1:=(dU hb bb (off+k) (by omega)).trans (Wd HC.out hlt);rw [IE l k x hlt] at hx;have HB:=dw hb;clear hb r0;generalize l[k]=y at r1 hx;have HX:=dw hx;clear hx;go_wp2;go_roundw
   case rel=>exact ⟨k+1,max x y,by omega,by omega,by congr 1;split<;>omega,by go_num,HX.out,HB.out⟩
   case measure=>simp [intOf];omega
  ·obtain rfl:k=l.length:=by omega
   rw [aF] at hx;have HX:=dw (aM hx hb);clear hx hb r0;go_wp2;go_ret;refine ⟨?_,HX.out.2⟩;rw [<-HX.out.1];rfl
end
end Go.Proofs
