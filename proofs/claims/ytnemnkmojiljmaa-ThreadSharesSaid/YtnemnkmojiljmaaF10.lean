/- Part 10. -/
import Derived.Laws.StructEq
import Derived.Test.YtnemnkmojiljmaaF04
import Derived.Test.YtnemnkmojiljmaaF09
set_option maxRecDepth 100000
set_option maxHeartbeats 8000000
set_option linter.all false
section
namespace Go.Proofs
open Go Go.RowKit Go.Maps
def rA (l:List Obj) (w:World):World:=l.foldl (λw o=>w.alloc o) w
theorem tN:∀(l:List Obj) (w:World),(rA l w).heap.size=w.heap.size+l.length
 | [],w=>rfl
 |o::l,w=>by
  show (rA l (w.alloc o)).heap.size=_;rw [tN l,show (w.alloc o).heap.size=w.heap.size+1 from Array.size_push ..];simp;omega
theorem Eg:∀(l:List Obj) (w:World) (b:Nat),b<w.heap.size->(rA l w).heap[b]?=w.heap[b]?
 | [],w,b,_=>rfl
 |o::l,w,b,h=>by
  show (rA l (w.alloc o)).heap[b]?=_
  rw [Eg l _ b (by rw [show (w.alloc o).heap.size=w.heap.size+1 from Array.size_push ..];omega)];exact Below.heap_alloc _ _ _ h
theorem kT:∀(l:List Obj) (w:World) (k:Nat),k<l.length->(rA l w).heap[w.heap.size+k]?=l[k]?
 | [],w,k,h=>by simp at h
 |o::l,w,0,h=>by
  show (rA l (w.alloc o)).heap[w.heap.size]?=_
  rw [Eg l _ _ (by rw [show (w.alloc o).heap.size=w.heap.size+1 from Array.size_push ..];omega)];show (w.heap.push o)[w.heap.size]?=some o
  simp
 |o::l,w,k+1,h=>by
  show (rA l (w.alloc o)).heap[w.heap.size+(k+1)]?=_
  have :=kT l (w.alloc o) k (by simpa using h);rw [show (w.alloc o).heap.size=w.heap.size+1 from Array.size_push ..] at this;rw [show w.heap.size+(k+1)=w.heap.size+1+k from by omega,this];rfl
theorem ni (l:List Obj):∀w:World,Below w.heap.size w (rA l w):=by
 induction l with
 |nil=>exact λw=>Below.refl _ _
 |cons o l ih=>exact λw=>((Below.refl _ _).alloc (aj _) o).trans ((ih (w.alloc o)).mono (by rw [show (w.alloc o).heap.size=w.heap.size+1 from Array.size_push ..];omega))
def uF:dz where
 hands:=[⟨#[97,110,97]⟩,⟨#[114,117,105]⟩]
 bP:=[⟨#[102,108,111,119,101,114,115]⟩,⟨#[114,101,100]⟩,⟨#[121,101,108,108,111,119]⟩,⟨#[109,111,114,101]⟩,⟨#[116,105,110]⟩]
 steps:=[⟨0,[],[0],100,120,0,0⟩,⟨0,[0],[1,2],0,0,0,10⟩,⟨1,[],[3],5,5,0,0⟩,⟨1,[1,3],[4],0,0,0,2⟩]
 bT:=[⟨0,105,110⟩,⟨2,90,90⟩,⟨4,14,16⟩]
def U8 (n:Nat):iQ where
 ah:=some ⟨n+1,0,none⟩
 ch:=2
 ap:=some ⟨n+2,0,none⟩
 cp:=5
 jU:=some ⟨n+13,0,none⟩
 cs:=4
 ac:=some ⟨n+17,0,none⟩
 cc:=3
 sv:= λi=>match i with
  |0=>⟨none,0,some ⟨n+3,0,none⟩,1⟩
  |1=>⟨some ⟨n+5,0,none⟩,1,some ⟨n+6,0,none⟩,2⟩
  |2=>⟨none,0,some ⟨n+8,0,none⟩,1⟩
  |_=>⟨some ⟨n+10,0,none⟩,2,some ⟨n+11,0,none⟩,1⟩
def L8 (n:Nat):List Obj:=
 [.cells #[.slice (some ⟨n+1,0,none⟩) 2 2,.slice (some ⟨n+2,0,none⟩) 5 5,.slice (some ⟨n+13,0,none⟩) 4 4,.slice (some ⟨n+17,0,none⟩) 3 3] 43,
  .cells #[.string ⟨#[97,110,97]⟩,.string ⟨#[114,117,105]⟩] 9,
  .cells #[.string ⟨#[102,108,111,119,101,114,115]⟩,.string ⟨#[114,101,100]⟩,.string ⟨#[121,101,108,108,111,119]⟩,.string ⟨#[109,111,114,101]⟩,.string ⟨#[116,105,110]⟩] 9,
  .cells #[.int .i64 0] 3,.cells #[.int .i64 100,.int .i64 120] 32,.cells #[.int .i64 0] 3,.cells #[.int .i64 1,.int .i64 2] 3,.cells #[.int .i64 0,.int .i64 10] 32,.cells #[.int .i64 3] 3,.cells #[.int .i64 5,.int .i64 5] 32,
  .cells #[.int .i64 1,.int .i64 3] 3,.cells #[.int .i64 4] 3,.cells #[.int .i64 0,.int .i64 2] 32,
  .cells #[.int .i64 0,.slice none 0 0,.slice (some ⟨n+3,0,none⟩) 1 1,.int .i64 100,.int .i64 120,.int .i64 0,.int .i64 0,.int .i64 0,.slice (some ⟨n+5,0,none⟩) 1 1,.slice (some ⟨n+6,0,none⟩) 2 2,.int .i64 0,.int .i64 0,.int .i64 0,.int .i64 10,
    .int .i64 1,.slice none 0 0,.slice (some ⟨n+8,0,none⟩) 1 1,.int .i64 5,.int .i64 5,.int .i64 0,.int .i64 0,.int .i64 1,.slice (some ⟨n+10,0,none⟩) 2 2,.slice (some ⟨n+11,0,none⟩) 1 1,.int .i64 0,.int .i64 0,.int .i64 0,.int .i64 2] 69,
  .cells #[.int .i64 105,.int .i64 110] 32,.cells #[.int .i64 90,.int .i64 90] 32,.cells #[.int .i64 14,.int .i64 16] 32,
  .cells #[.int .i64 0,.int .i64 105,.int .i64 110,.int .i64 2,.int .i64 90,.int .i64 90,.int .i64 4,.int .i64 14,.int .i64 16] 51]
variable [Lo.St]
theorem Lo.Dm (a b:Int) (w:World):Calls Lo.prog 10 #[.int .i64 a,.int .i64 b] w λe w'=>e= .returned (.agg #[.int .i64 a,.int .i64 b])∧w'=w.alloc (.cells #[.int .i64 a,.int .i64 b] 32):=by
 obtain ⟨U,U2,U3,U4,U5,U6⟩:=@Lo.facts inferInstance;go_enter Lo.func10,Try.ntmps10;go_wp2;exact bodyPost_ret (v:=.agg #[.int .i64 a,.int .i64 b]) (by simp [results,Try.results10,go_sem,U,U2,U3,U4,U5,U6]) rfl ⟨rfl,rfl⟩
theorem Lo.JP (w:World):Calls Lo.prog 11 #[] w λe w'=>e= .returned (dN uF (U8 w.heap.size))∧w'=rA (L8 w.heap.size) w:=by
 obtain ⟨U,U2,U3,U4,U5,U6⟩:=@Lo.facts inferInstance;have C:=(@Lo.call10 inferInstance);go_enter Lo.func11,Try.ntmps11
 go_wp2_with (go_at_call 10;refine (Lo.Dm _ _ _).mono ?_;rintro e w1 ⟨rfl,rfl⟩)
 have hf:Try.f11.results= #[ResultVar.cell 0 43]:=by unfold Try.f11;rfl
 obtain ⟨n,hn⟩:∃n,n=w.heap.size:=⟨_,rfl⟩
 have hW:∀(T:List Value) (W:World),W=rA (L8 w.heap.size) w->(results Try.f11 (Value.pointer (some ⟨w.heap.size,0,none⟩)::T).toArray).run Lo.prog W= .ok (dN uF (U8 w.heap.size)) W:=by
  intro T W hW
  have h0:W.heap[w.heap.size]?=some (.cells #[.slice (some ⟨w.heap.size+1,0,none⟩) 2 2,.slice (some ⟨w.heap.size+2,0,none⟩) 5 5,.slice (some ⟨w.heap.size+13,0,none⟩) 4 4,.slice (some ⟨w.heap.size+17,0,none⟩) 3 3] 43):=by
   rw [hW];exact kT (L8 w.heap.size) w 0 (by simp [L8])
  have c0:W.cell? ⟨w.heap.size,0,none⟩=some (.slice (some ⟨w.heap.size+1,0,none⟩) 2 2):=by unfold World.cell?;simp only [h0];rfl
  have c1:W.cell? ⟨w.heap.size,1,none⟩=some (.slice (some ⟨w.heap.size+2,0,none⟩) 5 5):=by unfold World.cell?;simp only [h0];rfl
  have c2:W.cell? ⟨w.heap.size,2,none⟩=some (.slice (some ⟨w.heap.size+13,0,none⟩) 4 4):=by unfold World.cell?;simp only [h0];rfl
  have c3:W.cell? ⟨w.heap.size,3,none⟩=some (.slice (some ⟨w.heap.size+17,0,none⟩) 3 3):=by unfold World.cell?;simp only [h0];rfl
  clear hW h0;simp [results,hf,go_sem,U,U2,U3,U4,U5,U6,c0,c1,c2,c3,dN,uF,U8]
 refine bodyPost_ret (v:=dN uF (U8 w.heap.size)) ?_ rfl ⟨rfl,?_⟩
 ·exact hW _ _ rfl
 ·rfl
end Go.Proofs
end
section
namespace Go.Proofs
open Go Go.RowKit Go.Maps
theorem qJ {W:World} {n:Nat} (h:∀k,k<18->W.heap[n+k]?=(L8 n)[k]?) (k:Nat) (hk:k<18) (c:Array Value) (e:TypeId) (hc:(L8 n)[k]?=some (.cells c e)) (o:Nat):W.cell? ⟨n+k,o,none⟩=c[o]?:=by
 have :=(h k hk).trans hc;unfold World.cell?;simp only [this];cases c[o]?<;>rfl
theorem IG {W:World} {n B:Nat} (h:∀k,k<18->W.heap[n+k]?=(L8 n)[k]?) (hB:n+18<=B):eT W B uF (U8 n):=by
 refine ⟨λ_=>⟨n+1,0,rfl,by omega, λi j hi hj=>?_⟩, λ_=>⟨n+2,0,rfl,by omega, λi j hi hj=>?_⟩, λ_=>⟨n+13,0,rfl,by omega, λi j hi hj=>?_⟩, λi s hs=>?_, λi s hs=>?_, λ_=>⟨n+17,0,rfl,by omega, λi j hi hj=>?_⟩,aj _,aj _,aj _,aj _⟩
 ·rw [qJ h 1 (by omega) _ _ rfl];have hi:i<2:=hi;obtain rfl:j=0:=by omega
  obtain rfl|rfl:i=0∨i=1:=by omega
  all_goals rfl
 ·rw [qJ h 2 (by omega) _ _ rfl];have hi:i<5:=hi;obtain rfl:j=0:=by omega
  obtain rfl|rfl|rfl|rfl|rfl:i=0∨i=1∨i=2∨i=3∨i=4:=by omega
  all_goals rfl
 ·rw [qJ h 13 (by omega) _ _ rfl];have hi:i<4:=hi;obtain rfl|rfl|rfl|rfl:i=0∨i=1∨i=2∨i=3:=by omega
  all_goals obtain rfl|rfl|rfl|rfl|rfl|rfl|rfl:j=0∨j=1∨j=2∨j=3∨j=4∨j=5∨j=6:=by omega
  all_goals rfl
 ·have hi:i<4:=(aJ.1 hs).1;obtain rfl|rfl|rfl|rfl:i=0∨i=1∨i=2∨i=3:=by omega
  ·cases hs;exact λh=>absurd h (by decide)
  ·cases hs;refine λ_=>⟨n+5,0,rfl,by omega, λi j hi hj=>?_⟩
   rw [qJ h 5 (by omega) _ _ rfl];have hi:i<1:=hi;obtain rfl:j=0:=by omega
   obtain rfl:i=0:=by omega
   rfl
  ·cases hs;exact λh=>absurd h (by decide)
  ·cases hs;refine λ_=>⟨n+10,0,rfl,by omega, λi j hi hj=>?_⟩
   rw [qJ h 10 (by omega) _ _ rfl];have hi:i<2:=hi;obtain rfl:j=0:=by omega
   obtain rfl|rfl:i=0∨i=1:=by omega
   all_goals rfl
 ·have hi:i<4:=(aJ.1 hs).1;obtain rfl|rfl|rfl|rfl:i=0∨i=1∨i=2∨i=3:=by omega
  ·cases hs;refine λ_=>⟨n+3,0,rfl,by omega, λi j hi hj=>?_⟩
   rw [qJ h 3 (by omega) _ _ rfl];have hi:i<1:=hi;obtain rfl:j=0:=by omega
   obtain rfl:i=0:=by omega
   rfl
  ·cases hs;refine λ_=>⟨n+6,0,rfl,by omega, λi j hi hj=>?_⟩
   rw [qJ h 6 (by omega) _ _ rfl];have hi:i<2:=hi;obtain rfl:j=0:=by omega
   obtain rfl|rfl:i=0∨i=1:=by omega
   all_goals rfl
  ·cases hs;refine λ_=>⟨n+8,0,rfl,by omega, λi j hi hj=>?_⟩
   rw [qJ h 8 (by omega) _ _ rfl];have hi:i<1:=hi;obtain rfl:j=0:=by omega
   obtain rfl:i=0:=by omega
   rfl
  ·cases hs;refine λ_=>⟨n+11,0,rfl,by omega, λi j hi hj=>?_⟩
   rw [qJ h 11 (by omega) _ _ rfl];have hi:i<1:=hi;obtain rfl:j=0:=by omega
   obtain rfl:i=0:=by omega
   rfl
 ·rw [qJ h 17 (by omega) _ _ rfl];have hi:i<3:=hi;obtain rfl|rfl|rfl:i=0∨i=1∨i=2:=by omega
  all_goals obtain rfl|rfl|rfl:j=0∨j=1∨j=2:=by omega
  all_goals rfl
theorem Eh:eX uF=0:=by kernel_rfl
theorem Ei:uy uF=true:=by kernel_rfl
theorem RX:sD uF= [105,110,9,13,90,90,5,5,14,16,105,110,0,0,0,0,2,10,5,5,0,0,0,0,0,2]:=by kernel_rfl
theorem Vw:Al uF= [0,0,2,10,0,0,0,2]:=by kernel_rfl
theorem JQ:BC uF 1= [1,0]:=by kernel_rfl
theorem RY:∀h:Nat,h<uF.hands.length->iE (dP uF h) (dw uF h)=true:= λh hh=>by
 have hh:h<2:=hh;have h0:iE (dP uF ((0:Nat):Int)) (dw uF ((0:Nat):Int))=true:=by kernel_rfl
 have h1:iE (dP uF ((1:Nat):Int)) (dw uF ((1:Nat):Int))=true:=by kernel_rfl
 obtain rfl|rfl:h=0∨h=1:=by omega
 ·exact h0
 ·exact h1
def mU:dz:={ uF with bT:=uF.bT++ [⟨1,14,20⟩] }
theorem Gm:eX mU=0:=by kernel_rfl
theorem Ph:IE mU=3:=by kernel_rfl
theorem Ej:uF.small:=⟨by decide,by decide,by decide,by decide,by decide,by decide⟩
theorem Gn:mU.small:=⟨by decide,by decide,by decide,by decide,by decide,by decide⟩
end Go.Proofs
end
section
namespace Go.Proofs
open Go Go.RowKit Go.Maps
variable [Lo.St]
theorem II {l m:List Int} {k:Nat} (h1:k<l.length) (h2:k<m.length):(l.drop k=m.drop k)↔(l[k]=m[k]∧l.drop (k+1)=m.drop (k+1)):=by
 rw [aG h1,aG h2];exact List.cons_eq_cons
theorem Lo.JR {w:World} {B:Nat} {A1 A2:Option Addr} {l1 l2:List Int} {c1 c2:Nat} (h1:zT w B A1 l1) (h2:zT w B A2 l2) (hl1:l1.length<=64) (hl2:l2.length<=64) (hB:B<=w.heap.size):
 Calls Lo.prog 8 #[.slice A1 l1.length c1,.slice A2 l2.length c2] w λe w'=>e= .returned (.bool (decide (l1=l2)))∧Below w.heap.size w w':=by
 obtain ⟨U,U2,U3,U4,U5,U6⟩:=@Lo.facts inferInstance
 by_cases hlen:l1.length=l2.length
 ·have d1:((l1.length:Int) !=(l2.length:Int))=false:=by simp;omega
  have HL:=Lib.hid hlen;clear hlen;go_enter Lo.func8,Try.ntmps8;go_wp2
  go_loopw [5] (λi wr=>∃k:Nat,k<=l1.length∧i= .int .i64 (k:Int)∧decide (l1.drop k=l2.drop k)=decide (l1=l2)∧Below w.heap.size w wr) (λi _=>l1.length - (intOf i).toNat)
  case atStart=>exact ⟨0,aL _,rfl,rfl,Below.refl _ _⟩
  case round=>
   obtain ⟨k,hk,rfl,hx,hb⟩:=hrel
   by_cases hlt:k<l1.length
   ·have hlt2:k<l2.length:=HL.out ▸ hlt;have hlt':(k:Int)<(l1.length:Int):=by omega
    have ae2:(k:Int)<(l2.length:Int):=by omega
    obtain ⟨b1,o1,rfl,hb1,hc1⟩:=(h1.keep λb o h=>bV hb b o (by omega)) (by omega);obtain ⟨b2,o2,rfl,hb2,hc2⟩:=(h2.keep λb o h=>bV hb b o (by omega)) (by omega);have r1:=Vm hc1 hlt;have r2:=Vm hc2 hlt2;have hd:decide (l1.drop k=l2.drop k)=decide (l1[k]=l2[k]∧l1.drop (k+1)=l2.drop (k+1)):=decide_eq_decide.2 (II hlt hlt2);rw [hx] at hd;have HB:=Lib.hid hb;clear hc1 hc2 h1 h2 hx hb;generalize l1[k]=x at r1 hd;generalize l2[k]=y at r2 hd
    by_cases hq:x=y
    ·have d3:(x !=y)=false:=by simpa using hq
     have HD:=Lib.hid hd;have HQ:=Lib.hid hq;clear hd hq;go_wp2
     go_region
     all_goals go_wp2
     go_roundw
     case rel=>exact ⟨k+1,by omega,by go_num,by rw [HD.out,HQ.out];simp,HB.out.drew⟩
     case measure=>simp [intOf];omega
    ·have d3:(x !=y)=true:=by simpa using hq
     have HD:=Lib.hid hd;have HQ:=Lib.hid hq;clear hd hq;go_wp2
     go_region
     all_goals go_wp2
     go_ret;exact ⟨by rw [HD.out];simp [HQ.out],HB.out.drew⟩
   ·obtain rfl:k=l1.length:=by omega
    have e1:decide (l1=l2)=true:=by
     rw [<-hx,List.drop_length,HL.out,List.drop_length];rfl
    have HX:=Lib.hid (au e1 hb);clear hx e1 hb;go_wp2;go_ret;exact ⟨by rw [HX.out.1];rfl,HX.out.2⟩
 ·have d1:((l1.length:Int) !=(l2.length:Int))=true:=by simp;omega
  have e1:decide (l1=l2)=false:=by
   simp;intro e;exact hlen (by rw [e])
  have HX:=Lib.hid e1;clear e1 hlen;go_enter Lo.func8,Try.ntmps8;go_wp2;go_ret;exact ⟨by rw [HX.out];rfl,Below.refl _ _⟩
attribute [local instance] Par.noSh
theorem uS (c:Code):Par.Alike Try.prog (Try.prog.stub 5 c):=.inr ⟨5,c,Try.f5.body.getD .skip,Try.f5,Try.func5,by unfold Try.f5;rfl,rfl⟩
theorem uT (c c':Code):Par.Alike (Try.prog.stub 5 c) ((Try.prog.stub 5 c).stub 16 c'):=.inr ⟨16,c',Try.f16.body.getD .skip,Try.f16,Par.rR _ _ _ Try.func16 (by decide),by unfold Try.f16;rfl,rfl⟩
theorem Vx:Try.prog.eqGuardType Try.prog.depth 32=false:=by kernel_rfl
theorem Vy:Try.prog.stoodInHeld 32=false:=by kernel_rfl
theorem Vz:Try.prog.underlying 32=some (.struct (Try.prog.fieldsOf 32)):=by kernel_rfl
theorem Lo.ao5:Lo.prog.eqGuardType Lo.prog.depth 32=false:=by
 rw [Lo.iD,(uT _ _).depth,(uS _).depth,(uT _ _).eqGuardType,(uS _).eqGuardType];exact Vx
theorem Lo.ao6:Lo.prog.stoodInHeld 32=false:=by
 rw [Lo.iD,(uT _ _).stoodInHeld,(uS _).stoodInHeld];exact Vy
theorem Lo.af2:Lo.prog.fieldsOf 32=Try.prog.fieldsOf 32:=by
 unfold Program.fieldsOf;rw [Lo.iD,(uT _ _).underlying,(uS _).underlying]
theorem Lo.ao7:Lo.prog.underlying 32=some (.struct (Lo.prog.fieldsOf 32)):=by
 rw [Lo.af2,Lo.iD,(uT _ _).underlying,(uS _).underlying];exact Vz
abbrev YH (w:World) (B:Nat) (A:Option Addr) (n:Nat) (l:List Int):Prop:=Rd w B 2 A n λi j=>.int .i64 ((l[2*i+j]?).getD 0)
def zm (l:List Int) (k:Nat):Int×Int:=((l[2*k]?).getD 0,(l[2*k+1]?).getD 0)
def El (l m:List Int) (n:Nat):Nat->Bool
 |0=>true
 |k+1=>if zm l (n - (k+1))=zm m (n - (k+1)) then El l m n k else false
def RZ (l m:List Int) (n:Nat):Bool:=El l m n n
theorem Lo.yK {w:World} {B:Nat} {A1 A2:Option Addr} {l1 l2:List Int} {n c1 c2:Nat} (h1:YH w B A1 n l1) (h2:YH w B A2 n l2) (hn:n<=64) (hB:B<=w.heap.size):
 Calls Lo.prog 17 #[.slice A1 n c1,.slice A2 n c2] w λe w'=>e= .returned (.bool (RZ l1 l2 n))∧Below w.heap.size w w':=by
 obtain ⟨U,U2,U3,U4,U5,U6⟩:=@Lo.facts inferInstance;have d1:((n:Int) !=(n:Int))=false:=by simp
 have e1:=(@Lo.ao5 inferInstance);have e2:=(@Lo.ao7 inferInstance);have e3:=(@Lo.ao6 inferInstance);have e4:=(@Lo.af2 inferInstance);go_enter Lo.func17,Try.ntmps17;go_wp2
 go_loopw [5] (λi wr=>∃k:Nat,k<=n∧i= .int .i64 (k:Int)∧El l1 l2 n (n - k)=RZ l1 l2 n∧Below w.heap.size w wr) (λi _=>n - (intOf i).toNat)
 case atStart=>exact ⟨0,aL _,rfl,rfl,Below.refl _ _⟩
 case round=>
  obtain ⟨k,hk,rfl,hx,hb⟩:=hrel
  by_cases hlt:k<n
  ·have hlt':(k:Int)<(n:Int):=by omega
   obtain ⟨b1,o1,rfl,hb1,hc1⟩:=(h1.keep λb o h=>bV hb b o (by omega)) (by omega);obtain ⟨b2,o2,rfl,hb2,hc2⟩:=(h2.keep λb o h=>bV hb b o (by omega)) (by omega);have r1:=hc1 k 0 hlt (by omega);have r1':=hc1 k 1 hlt (by omega);have r2:=hc2 k 0 hlt (by omega);have r2':=hc2 k 1 hlt (by omega)
   have hd:El l1 l2 n (n - k)=if zm l1 k=zm l2 k then El l1 l2 n (n - (k+1)) else false:=by
    rw [show n - k=(n - (k+1))+1 from by omega];show (if zm l1 (n - (n - (k+1)+1))=zm l2 (n - (n - (k+1)+1)) then _ else _)=_;rw [show n - (n - (k+1)+1)=k from by omega]
   rw [hx] at hd;have HB:=Lib.hid hb;unfold zm at hd;clear hc1 hc2 h1 h2 hx hb;simp only [Nat.add_zero, <-Nat.add_assoc] at r1 r2 r1' r2';generalize (l1[2*k]?).getD 0=x at r1 hd;generalize (l1[2*k+1]?).getD 0=x' at r1' hd;generalize (l2[2*k]?).getD 0=y at r2 hd;generalize (l2[2*k+1]?).getD 0=y' at r2' hd
   by_cases hq:x=y
   ·subst hq
    by_cases hq':x'=y'
    ·subst hq';rw [if_pos rfl] at hd;have HD:=Lib.hid hd;clear hd;go_wp2
     go_region
     all_goals go_wp2
     go_roundw
     case rel=>exact ⟨k+1,by omega,by go_num,by rw [HD.out],HB.out.drew⟩
     case measure=>simp [intOf];omega
    ·rw [if_neg (by simp [hq'])] at hd;have d3:(x'==y')=false:=by simpa using hq'
     have HD:=Lib.hid hd;clear hd;go_wp2
     go_region
     all_goals go_wp2
     go_ret;exact ⟨by rw [HD.out];rfl,HB.out.drew⟩
   ·rw [if_neg (by simp [hq])] at hd;have d3:(x==y)=false:=by simpa using hq
    have HD:=Lib.hid hd;clear hd;go_wp2
    go_region
    all_goals go_wp2
    go_ret;exact ⟨by rw [HD.out];rfl,HB.out.drew⟩
  ·obtain rfl:k=n:=by omega
   have e1:RZ l1 l2 k=true:=by
    rw [<-hx,Nat.sub_self];rfl
   have HX:=Lib.hid (au e1 hb);clear hx e1 hb;go_wp2;go_ret;exact ⟨by rw [HX.out.1];rfl,HX.out.2⟩
end Go.Proofs
end
section
namespace Go.Proofs
open Go Go.RowKit Go.Maps
variable [Lo.St]
theorem Lo.R3 (a b:Int) (ha:0<=a∧a<=1000000000) (hb:1<=b∧b<=1000000000) (w:World):Calls Lo.prog 20 #[.int .i64 a,.int .i64 b] w λe w'=>e= .returned (.int .i64 ((a+b - 1) / b))∧w'=w:=by
 obtain ⟨U,U2,U3,U4,U5,U6⟩:=@Lo.facts inferInstance;obtain ⟨a1,a2⟩:=ha;obtain ⟨b1,b2⟩:=hb;have hb0:b≠0:=by omega
 go_enter Lo.func20,Try.ntmps20;go_wp2;go_ret;exact ⟨rfl,rfl⟩
def yD (l:List Int) (a:Int):Int:=l.foldl max a
theorem Gp (l:List Int) (k:Nat) (a:Int) (h:k<l.length):yD (l.drop k) a=yD (l.drop (k+1)) (max a l[k]):=by
 rw [aG h];rfl
theorem Lo.VA {w:World} {B:Nat} {A:Option Addr} {l:List Int} {c:Nat} (h:zT w B A l) (hl:0<l.length) (hl2:l.length<=64) (hB:B<=w.heap.size):
 Calls Lo.prog 21 #[.slice A l.length c] w λe w'=>e= .returned (.int .i64 (yD l ((l[0]?).getD 0)))∧Below w.heap.size w w':=by
 obtain ⟨U,U2,U3,U4,U5,U6⟩:=@Lo.facts inferInstance;obtain ⟨bb,off,rfl,hbb,hc⟩:=h hl;have r0:=Vm hc hl;have hl':¬(l.length:Int)<1:=by omega
 have hl3:(0:Int)<(l.length:Int):=by omega
 have e0:(l[0]?).getD 0=l[0]:=by rw [ax hl];rfl
 have hm:yD (l.drop 1) l[0]=yD l ((l[0]?).getD 0):=by
  have :=Gp l 0 l[0] hl;rw [List.drop_zero] at this;rw [e0,this];simp
 generalize l[0]=x0 at r0 hm;have HM:=Lib.hid hm;have HC:=Lib.hid hc;clear hm hc e0;simp only [Nat.add_zero] at r0;go_enter Lo.func21,Try.ntmps21;go_wp2
 go_loopw [3,4] (λi j wr=>∃(k:Nat) (x:Int),1<=k∧k<=l.length∧i= .int .i64 x∧j= .int .i64 (k:Int)∧yD (l.drop k) x=yD l ((l[0]?).getD 0)∧Below w.heap.size w wr) (λ_ j _=>l.length - (intOf j).toNat)
 case atStart=>exact ⟨1,x0,by omega,by omega,rfl,rfl,HM.out,Below.refl _ _⟩
 case round=>
  obtain ⟨k,x,hk1,hk,rfl,rfl,hx,hb⟩:=hrel
  by_cases hlt:k<l.length
  ·have hlt':(k:Int)<(l.length:Int):=by omega
   have r1:=(bV hb bb (off+k) (by omega)).trans (Vm HC.out hlt);rw [Gp l k x hlt] at hx;have HB:=Lib.hid hb;clear hb r0;generalize l[k]=y at r1 hx;have HX:=Lib.hid hx;clear hx;go_wp2;go_roundw
   case rel=>exact ⟨k+1,max x y,by omega,by omega,by congr 1;split<;>omega,by go_num,HX.out,HB.out⟩
   case measure=>simp [intOf];omega
  ·obtain rfl:k=l.length:=by omega
   rw [List.drop_length] at hx;have HX:=Lib.hid (au hx hb);clear hx hb r0;go_wp2;go_ret;refine ⟨?_,HX.out.2⟩;rw [<-HX.out.1];rfl
end Go.Proofs
end
