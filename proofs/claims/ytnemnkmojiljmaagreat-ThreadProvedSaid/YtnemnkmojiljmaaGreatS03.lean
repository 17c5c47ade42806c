/- Part 3. -/
import Derived.RangeFuncRecord
import Derived.Test.YtnemnkmojiljmaaGreatH28
import Derived.Test.YtnemnkmojiljmaaGreatH31
import Derived.Test.YtnemnkmojiljmaaGreatS01
set_option maxRecDepth 100000
set_option maxHeartbeats 0
set_option linter.all false
section
namespace Go.Proofs
open Go Go.RowKit Go.Maps
variable [Lo.St]
theorem book_box {w:World} {B:Nat} {b:dO} {v:gJ} (hb:fC w B b v) (hB:B<=w.heap.size):∃X,w.alloc (.cells (lN b v) 26)=X∧X.heap.size=w.heap.size+1∧Below w.heap.size w X∧(∀W,Below X.heap.size X W->fC W B b v)∧
 ∀W,Below X.heap.size X W->W.heap[w.heap.size]?=some (.cells #[.slice v.ah b.dJ.length v.ch,.slice v.ap b.dz.length v.cp,.slice v.iT b.steps.length v.cs,.slice v.ac b.dA.length v.cc] 26):=by
 have s:=World.size_alloc w (.cells (lN b v) 26);have bX:Below w.heap.size w (w.alloc (.cells (lN b v) 26)):=(Below.refl _ _).alloc (Nat.le_refl _) _;exact ⟨_,rfl,s,bX, λW hW=>hb.keep λd o h=>dH (bX.trans (hW.mono bX.size)) d o (by omega), λW hW=>(hW.block w.heap.size (by omega)).trans (World.alloc_heap_new _ _)⟩
end Go.Proofs
end
section
namespace Go.Proofs
open Go Go.RowKit Go.Maps
variable [Lo.St]
def prvF (n:Nat):Int->List Int->Int
 |_,[]=>0
 |p,x::l=>if kH x 0 ((n:Int) - 1)=false then 6 else if x<=p then 7 else prvF n x l
def bitsL (l:List Int):Nat:=(l.map λx=>2 ^ x.toNat).sum
def prevL (l:List Int):Nat->Int
 |0=> -1
 |k+1=>l.getD k 0
def PrvP (w:World) (b:dO) (l:List Int) (eO:Bool) (e:Ending) (w':World):Prop:=
 Below w.heap.size w w'∧
 if fG b≠0 then e= .returned (.tuple #[.bool false,.int .i64 (fG b)])
 else if prvF b.steps.length (-1) l≠0 then e= .returned (.tuple #[.bool false,.int .i64 (prvF b.steps.length (-1) l)])
 else e= .returned (.tuple #[.bool (gP (fA b (-1)) (b.steps.length+1) (bitsL l) eO),.int .i64 0])
theorem or_pow (s x:Nat) (h:s<2 ^ x) (hx:x<62):bits .or .u64 (s:Int) ((2 ^ x:Nat):Int)=((s+2 ^ x:Nat):Int):=by
 have h2:(2:Nat) ^ x<2 ^ 62:=Nat.pow_lt_pow_right (by decide) hx;have h3:=(bits_nat .u64 63 (by decide) Bu s (2 ^ x) (by omega) (by omega)).2;rw [h3];have :=Nat.two_pow_add_eq_or_of_lt h 1;rw [Nat.mul_one] at this;rw [Nat.or_comm, <-this,Nat.add_comm]
theorem bits_take {l:List Int} {k:Nat} (h:k<l.length):bitsL (l.take (k+1))=bitsL (l.take k)+2 ^ (l[k]).toNat:=by
 unfold bitsL;rw [List.take_succ_eq_append_getElem h,List.map_append,List.sum_append];simp
theorem prv_step {n k:Nat} {l:List Int} {p:Int} (h:k<l.length):prvF n p (l.drop k)=if kH l[k] 0 ((n:Int) - 1)=false then 6 else if l[k]<=p then 7 else prvF n l[k] (l.drop (k+1)):=by
 rw [List.drop_eq_getElem_cons h];rfl
theorem prev_succ {l:List Int} {k:Nat} (h:k<l.length):prevL l (k+1)=l[k]:=by
 simp [prevL,h]
structure Prv (n:Nat) (l:List Int) (k s:Nat):Prop where
 eq:prvF n (-1) l=prvF n (prevL l k) (l.drop k)
 val:s=bitsL (l.take k)
 lt:s<2 ^ (prevL l k+1).toNat
 p1: -1<=prevL l k
 p2:prevL l k<=n - 1
theorem Prv.start (n:Nat) (l:List Int):Prv n l 0 0:=⟨rfl,rfl,by simp [prevL],by simp [prevL],by simp [prevL];omega⟩
theorem Prv.step {n k s:Nat} {l:List Int} (h:Prv n l k s) (hk:k<l.length) (h1:kH l[k] 0 ((n:Int) - 1)=true) (h2:¬l[k]<=prevL l k):Prv n l (k+1) (s+2 ^ (l[k]).toNat)∧s<2 ^ (l[k]).toNat:=by
 obtain ⟨e,hs,lt,p1,p2⟩:=h;have hb:0<=l[k]∧l[k]<=(n:Int) - 1:=by simpa [kH] using h1
 have hm:s<2 ^ (l[k]).toNat:=Nat.lt_of_lt_of_le lt (Nat.pow_le_pow_right (by decide) (by omega));refine ⟨⟨?_,?_,?_,?_,?_⟩,hm⟩
 ·rw [e,prv_step hk,if_neg (by rw [h1];simp),if_neg h2,prev_succ hk]
 ·rw [bits_take hk,hs]
 ·rw [prev_succ hk,show (l[k]+1).toNat=(l[k]).toNat+1 by omega,Nat.pow_succ];omega
 ·rw [prev_succ hk];omega
 ·rw [prev_succ hk];omega
theorem Prv.last {n:Nat} {l:List Int} {s:Nat} (h:Prv n l l.length s):prvF n (-1) l=0∧s=bitsL l∧s<2 ^ n:=by
 obtain ⟨e,hs,lt,p1,p2⟩:=h;rw [List.drop_length] at e;rw [List.take_length] at hs;exact ⟨e,hs,Nat.lt_of_lt_of_le lt (Nat.pow_le_pow_right (by decide) (by omega))⟩
theorem Lo.tproves_any {w:World} {B:Nat} {b:dO} {v:gJ} {x:Value} {A:Option Addr} {l:List Int} {cl:Nat} {eO:Bool} (hx:x=dY b v) (hb:fC w B b v) (hB:B<=w.heap.size) (hs:b.small) (hr:xJ w B A l) (hl:l.length<=64):
 Calls Lo.prog 40 #[x,.slice A l.length cl,.bool eO] w (PrvP w b l eO):=by
 obtain ⟨U,U2,U3,U4,U5,U6⟩:=Lo.facts;have C:=Lo.call Tryz.func17;have C2:=Lo.call Tryz.func49;have C3:=Lo.call Tryz.func56;have C4:=Lo.call Tryz.func65;subst hx;obtain ⟨X,hX,sX,bX,hA,hC⟩:=book_box hb hB;have HC:=Lib.hid hC;have HA:=Lib.hid hA;have HX:=Lib.hid (And.intro hX bX);have HR:=Lib.hid hr;clear hX bX hA hC hb hr;obtain ⟨f0,f1,f2,f3⟩:=al8 (HC.out X (Below.refl _ _));show Calls Lo.prog 40 #[Value.agg (lN b v),_,_] w _;unfold lN;go_enter Lo.get Tryz.func40,Tryz.ntmps40;go_wp2;have hy:=HX.out.1;unfold lN at hy;rw [hy];clear hy;refine (Lo.gV (b:=b) (v:=v) (B:=B) rfl (HA.out X (Below.refl _ _)) (by omega) hs).mono ?_
 rintro e w1 ⟨rfl,h1⟩;obtain ⟨f0,f1,f2,f3⟩:=al8 (HC.out w1 h1);obtain ⟨cx,hcx⟩:∃cx,fG b=cx:=⟨_,rfl⟩;rw [hcx]
 by_cases z:cx=0
 case neg=>
  have z2:(cx==0)=false:=by simpa using z
  have WV:=Lib.hid (And.intro hcx h1);clear hcx h1;go_wp2
  go_ret2
  refine ⟨HX.out.2.trans (WV.out.2.mono (by omega)),?_⟩;rw [if_pos (by rw [WV.out.1];exact z),WV.out.1];rfl
 subst z;have hg:=lM hs hcx;have hn8:=hg.n8;have WV:=Lib.hid (And.intro hcx (And.intro h1 hg));clear hcx h1 hg;go_wp2;go_wp2;have sz1:X.heap.size<=w1.heap.size:=WV.out.2.1.size
 go_loopw [9,19] (λs i wr=>∃k q:Nat,k<=l.length∧i= .int .i64 (k:Int)∧s= .int .u64 (q:Int)∧Prv b.steps.length l k q∧Below w1.heap.size w1 wr) (λ_ i _=>l.length - (intOf i).toNat)
 case atStart=>exact ⟨0,0,Nat.zero_le _,rfl,rfl,Prv.start _ _,Below.refl _ _⟩
 case round=>
  obtain ⟨k,q,hk,rfl,rfl,hp,hbw⟩:=hrel;have hXr:=WV.out.2.1.trans (hbw.mono sz1);obtain ⟨f0,f1,f2,f3⟩:=al8 (HC.out wr hXr);have szr:w1.heap.size<=wr.heap.size:=hbw.size;have hrr:xJ wr B A l:=HR.out.keep λd o h=>dH (HX.out.2.trans (hXr.mono HX.out.2.size)) d o (by omega)
  have HW:=Lib.hid (And.intro hbw hXr);clear hbw hXr
  by_cases hlt:k<l.length
  ·have hlt':(k:Int)<(l.length:Int):=by omega
   obtain ⟨b1,o1,rfl,hb1,hc1⟩:=hrr (by omega);have r1:=PT hc1 hlt
   have r2:∀j:Nat,k=j+1->wr.cell? ⟨b1,o1+j,none⟩=some (.int .i64 (prevL l k)):= λj hj=>by
    subst hj;rw [PT hc1 (by omega),prev_succ (by omega)]
   have HP:=Lib.hid hp;have HK:=Lib.hid hc1;have wl:IntKind.i64.wrap ((b.steps.length:Int) - 1)=(b.steps.length:Int) - 1:=by rw [IntKind.wrap_i64];omega
   have hbl:Below w.heap.size w wr:=HX.out.2.trans (HW.out.2.mono (by omega));have zQ:=Lib.hid hbl;have HLT:=Lib.hid hlt;clear hc1 hbl hp hrr;obtain ⟨x,hx⟩:∃x,l[k]'hlt=x:=⟨_,rfl⟩;replace r1:wr.cell? ⟨b1,o1+k,none⟩=some (.int .i64 x):=by rw [<-hx];exact r1
   have HXX:=Lib.hid hx;clear hx;go_wp2;refine (Lo.eB _ _ _ _).mono ?_
   rintro e w1' ⟨rfl,rfl⟩;cases hbt:kH x 0 ((b.steps.length:Int) - 1) with
   |false=>
    have HB:=Lib.hid hbt;clear hbt;go_wp2
    go_ret2
    refine ⟨zQ.out,?_⟩;have h6:prvF b.steps.length (-1) l=6:=by rw [HP.out.eq,prv_step HLT.out,HXX.out,if_pos HB.out]
    rw [if_neg (by rw [WV.out.1];simp),if_pos (by rw [h6];decide),h6];rfl
   |true=>
    have hx0:0<=x∧x<=(b.steps.length:Int) - 1:=by simpa [kH] using hbt
    have HB:=Lib.hid hbt;clear hbt;obtain ⟨p,hpv⟩:∃p,prevL l k=p:=⟨_,rfl⟩;rw [hpv] at r2;have HPV:=Lib.hid hpv;clear hpv
    by_cases hle:x<=p
    ·obtain ⟨j,rfl⟩:∃j,k=j+1:=by
      cases k with
      |zero=>have :=HPV.out;simp [prevL] at this;omega
      |succ j=>exact ⟨j,rfl⟩
     have r3:=r2 j rfl;have d1:decide (((j+1:Nat):Int) > 0)=true:=decide_eq_true (by omega);have d2:decide (x<=p)=true:=decide_eq_true hle;have wj:IntKind.i64.wrap (((j+1:Nat):Int) - 1)=(j:Int):=by rw [IntKind.wrap_i64];omega
     have hj':(j:Int)<(l.length:Int):=by omega
     have HLE:=Lib.hid hle;clear hle;go_wp2
     go_ret2
     refine ⟨zQ.out,?_⟩;have h6:prvF b.steps.length (-1) l=7:=by rw [HP.out.eq,prv_step HLT.out,HXX.out,if_neg (by rw [HB.out];simp),HPV.out,if_pos HLE.out]
     rw [if_neg (by rw [WV.out.1];simp),if_pos (by rw [h6];decide),h6];rfl
    ·obtain ⟨n,rfl⟩:∃n:Nat,x=(n:Int):=⟨x.toNat,by omega⟩;have hst:=HP.out.step HLT.out (by rw [HXX.out];exact HB.out) (by rw [HXX.out,HPV.out];exact hle);rw [HXX.out,Int.toNat_natCast] at hst;have hsh:=vC n (by omega);have hor:=or_pow q n hst.2 (by omega);have HST:=Lib.hid hst.1;clear hst;have fin:True:=trivial;cases k with
     |zero=>
      have HLE:=Lib.hid hle;clear hle;go_wp2;go_roundw
      case rel=>exact ⟨1,q+2 ^ n,by omega,by go_num,by rw [show ((2:Int) ^ n)=((2 ^ n:Nat):Int) from by simp,hor],HST.out,HW.out.1⟩
      case measure=>simp [intOf];omega
     |succ j=>
      have r3:=r2 j rfl;have d1:decide (((j+1:Nat):Int) > 0)=true:=decide_eq_true (by omega);have d2:decide ((n:Int)<=p)=false:=decide_eq_false hle;have wj:IntKind.i64.wrap (((j+1:Nat):Int) - 1)=(j:Int):=by rw [IntKind.wrap_i64];omega
      have hj':(j:Int)<(l.length:Int):=by omega
      have HLE:=Lib.hid hle;clear hle;go_wp2;go_roundw
      case rel=>exact ⟨j+1+1,q+2 ^ n,by omega,by go_num,by rw [show ((2:Int) ^ n)=((2 ^ n:Nat):Int) from by simp,hor],HST.out,HW.out.1⟩
      case measure=>simp [intOf];omega
  ·obtain rfl:k=l.length:=by omega
   have HP:=Lib.hid hp.last;have hq1:q<2 ^ (b.steps.length+1):=Nat.lt_trans hp.last.2.2 (Nat.pow_lt_pow_right (by decide) (by omega));have zQ:=Lib.hid (HX.out.2.trans (HW.out.2.mono (by omega)));clear hp hrr;go_wp2;refine (Lo.vH (b:=b) (v:=v) (B:=B) rfl (HA.out wr HW.out.2) (by omega) WV.out.2.2 (-1) (by omega)).mono ?_
   rintro e w2 ⟨bw,Aw,cap,rfl,hw,hb2⟩;have HB2:=Lib.hid hb2;clear hb2;have hn1:dZ b (-1)=b.steps.length+1:=if_neg (by omega);rw [hn1] at hw;have HWW:=Lib.hid hw;clear hw;go_wp2;refine (Lo.KN HWW.out (Nat.le_refl _) (by omega) q hq1 eO).mono ?_
   rintro e w3 ⟨rfl,hb3⟩;go_wp2
   go_ret2
   refine ⟨(zQ.out.trans (HB2.out.mono zQ.out.size)).trans (hb3.mono (Nat.le_trans zQ.out.size HB2.out.size)),?_⟩;rw [if_neg (by rw [WV.out.1];simp),if_neg (by rw [HP.out.1];simp),HP.out.2.1];rfl
end Go.Proofs
end
section
namespace Go.Proofs
open Go Go.RowKit Go.Maps Go.Proofs.Tryz
section
variable [Lo.St]
theorem holds_iff {ss:List eX} {nd:Nat}:gN ss nd=true↔iQ ss=false∧∀s,s<2 ^ nd->gM ss s<=0:=by
 unfold gN sV;rw [Bool.and_eq_true,Bool.not_eq_true',List.all_eq_true];exact ⟨λh=>⟨h.1, λs hs=>by have :=h.2 s (List.mem_range.2 hs);simpa using this⟩, λh=>⟨h.1, λs hs=>by have :=h.2 s (List.mem_range.1 hs);simpa using this⟩⟩
theorem short_same {ss:List eX} {s:Nat} (h:∀x∈ss,kJ s x.fr x.to=0):gM ss s=0:=by
 unfold gM
 have :∀(l:List eX),(∀x∈l,kJ s x.fr x.to=0)->l.foldl (OJ s) 0=0:=by
  intro l
  induction l with
  |nil=>intro _;rfl
  |cons x l ih=>
   intro hl;have h0:OJ s 0 x=0:=by unfold OJ;rw [hl x (by simp)];simp
   rw [List.foldl_cons,h0];exact ih λy hy=>hl y (by simp [hy])
 exact this ss h
theorem bit_full {nd i:Nat} (h:i<nd):bit (2 ^ nd - 1) i=1:=by
 unfold bit;have :=Nat.testBit_two_pow_sub_one nd i;rw [Nat.testBit_eq_decide_div_mod_eq] at this;simpa [h] using this
theorem side_same {s f t:Nat} (h:bit s f=bit s t):kJ s f t=0:=by
 unfold kJ;rw [h];simp
def Within (ss:List eX) (nd:Nat):Prop:=∀x∈ss,x.fr<nd∧x.to<nd
theorem holds_proves {ss:List eX} {n:Nat} (hw:Within ss (n+1)):gN ss (n+1)=false↔∃s m,s<2 ^ n∧gP ss (n+1) s m=true:=by
 have hp:(2:Nat) ^ (n+1)=2*2 ^ n:=by rw [Nat.pow_succ];omega
 have h1:0<2 ^ n:=Nat.pow_pos (by decide);constructor
 ·intro h;cases hc:iQ ss with
  |true=>exact ⟨0,false,h1,by unfold gP;simp [hc]⟩
  |false=>
   have :∃t,t<2 ^ (n+1)∧0<gM ss t:=by
    apply Classical.byContradiction;intro hx
    have :gN ss (n+1)=true:=holds_iff.2 ⟨hc, λs hs=>by
     apply Classical.byContradiction;intro hy;exact hx ⟨s,hs,by omega⟩⟩
    rw [h] at this;cases this
   obtain ⟨t,ht,hs⟩:=this
   have ht0:t≠0:= λe=>by
    rw [e,short_same λx _=>side_same (by simp [bit])] at hs;omega
   have htf:t≠2 ^ (n+1) - 1:= λe=>by
    rw [e,short_same λx hx=>side_same (by rw [bit_full (hw x hx).1,bit_full (hw x hx).2])] at hs;omega
   by_cases hlt:t<2 ^ n
   ·exact ⟨t,false,hlt,by unfold gP;rw [if_neg ht0];simpa using hs⟩
   ·refine ⟨2 ^ (n+1) - 1 - t,true,by omega,?_⟩;unfold gP;rw [if_neg (by omega),if_pos rfl,show 2 ^ (n+1) - 1 - (2 ^ (n+1) - 1 - t)=t by omega];simpa using hs
 ·rintro ⟨s,m,hs,h⟩;cases hh:gN ss (n+1) with
  |false=>rfl
  |true=>
   exfalso;obtain ⟨hc,hf⟩:=holds_iff.1 hh;unfold gP at h;split at h
   ·rw [hc] at h;simp at h
   ·split at h
    ·have :=hf (2 ^ (n+1) - 1 - s) (by omega);have h2:=of_decide_eq_true h;omega
    ·have :=hf s (by omega);have h2:=of_decide_eq_true h;omega
theorem webL_within {b:dO} (hc:fG b=0):Within (fA b (-1)) (b.steps.length+1):=by
 intro x hx;unfold fA at hx;rw [if_neg (by omega),List.append_nil] at hx;rcases List.mem_append.1 hx with hx|hx
 ·obtain ⟨p,_,rfl⟩:=List.mem_map.1 hx;have h1:=MM b.steps p;have h2:=RF b.steps p;refine ⟨?_,?_⟩
  ·show (tq b.steps p).toNat<_;omega
  ·show ((qO b.steps p).getD b.steps.length).toNat<_;omega
 ·have :∀k,∀x∈fq b (-1) k,x.fr<b.steps.length+1∧x.to<b.steps.length+1:=by
   intro k
   induction k with
   |zero=>intro x h;simp [fq] at h
   |succ k ih=>
    intro x h;unfold fq at h;rcases List.mem_append.1 h with h|h
    ·exact ih x h
    ·cases e:b.steps[k]? with
     |none=>rw [e] at h;simp at h
     |some s=>
      rw [e] at h;have hk:=(List.getElem?_eq_some_iff.1 e).1;simp only [nT,List.mem_cons,List.not_mem_nil,or_false] at h;rcases h with rfl|rfl
      ·exact ⟨by dsimp only;omega,by dsimp only;omega⟩
      ·by_cases hh:s.hand= -1
       ·have hb:=(vE (CX (EP hc).2.2.1).2.1 s (List.mem_of_getElem? e)).1;simp only [kH,Bool.and_eq_true,decide_eq_true_eq] at hb;omega
       ·exact ⟨by dsimp only;omega,by dsimp only;rw [if_neg hh];omega⟩
  exact this _ x hx
theorem prv_zero {n:Nat}:∀{l:List Nat} {p:Int},(∀x∈l,p<(x:Int)∧x<n)->l.Pairwise (· < ·)->prvF n p (Bi l)=0
 | [],_,_,_=>rfl
 |x::l,p,h,hp=>by
  obtain ⟨h1,h2⟩:=h x (by simp);rw [List.pairwise_cons] at hp;show prvF n p ((x:Int)::Bi l)=0;unfold prvF;rw [if_neg (by simp [kH];omega),if_neg (by omega)];exact prv_zero (λy hy=>⟨by have :=hp.1 y hy;omega,(h y (by simp [hy])).2⟩) hp.2
theorem listTo_sorted (s k:Nat):(nk s k).Pairwise (· < ·):=List.Pairwise.filter _ List.pairwise_lt_range
theorem listTo_mem {s k x:Nat}:x∈nk s k↔x<k∧bit s x=1:=by
 unfold nk;simp
theorem bits_to (s:Nat):∀k,bitsL (Bi (nk s k))=s%2 ^ k
 |0=>by simp [nk,bitsL,Bi,Nat.mod_one]
 |k+1=>by
  have ih:=bits_to s k;rw [Ay];have e:s%2 ^ (k+1)=s%2 ^ k+2 ^ k*(s / 2 ^ k%2):=by rw [Nat.pow_succ,Nat.mod_mul]
  rw [e];have hb:bit s k=s / 2 ^ k%2:=rfl;have :=KG s k
  by_cases h:bit s k=1
  ·rw [if_pos h, <-hb,h];unfold bitsL Bi at ih ⊢;rw [List.map_append,List.map_append,List.sum_append,ih];simp
  ·rw [if_neg h,ih, <-hb,show bit s k=0 by omega];omega
theorem bit_mod {s n i:Nat} (h:i<n):bit (s%2 ^ n) i=bit s i:=by
 have h1:=Nat.testBit_mod_two_pow s n i;rw [Nat.testBit_eq_decide_div_mod_eq,Nat.testBit_eq_decide_div_mod_eq,decide_eq_true h,Bool.true_and] at h1;have :=decide_eq_decide.1 h1;unfold bit;omega
theorem listOf_mod {s n:Nat} (hn:n<=16):kK (s%2 ^ n)=nk s n:=by
 have h1:(s%2 ^ n) / 2 ^ n=0:=Nat.div_eq_of_lt (Nat.mod_lt _ (Nat.pow_pos (by decide)));have h2:=Az (s%2 ^ n) n h1 (16 - n);unfold kK;rw [show n+(16 - n)=16 by omega] at h2;rw [h2];unfold nk;refine List.filter_congr λi hi=>?_
 rw [bit_mod (List.mem_range.1 hi)]
theorem listOf_bits {s n:Nat} (hn:n<=16) (hs:s<2 ^ n):bitsL (Bi (kK s))=s∧prvF n (-1) (Bi (kK s))=0:=by
 have e:=listOf_mod (s:=s) hn;rw [Nat.mod_eq_of_lt hs] at e;rw [e,bits_to,Nat.mod_eq_of_lt hs];exact ⟨rfl,prv_zero (λx hx=>⟨by omega,(listTo_mem.1 hx).1⟩) (listTo_sorted _ _)⟩
theorem mem_items {ss:List eX} {n:Nat} {x:List Int×Bool}:x∈fU ss n (iI ss n false).length (iI ss n true).length↔∃s,s<2 ^ n∧gP ss (n+1) s x.2=true∧x.1=Bi (kK s):=by
 have hm:∀m s,s∈iI ss n m↔s<2 ^ n∧gP ss (n+1) s m=true:= λm s=>by unfold iI;simp
 unfold fU;rw [List.take_length,List.take_length,List.mem_append];obtain ⟨l,m⟩:=x;constructor
 ·rintro (h|h)<;>obtain ⟨s,hs,e⟩:=List.mem_map.1 h<;>cases e<;>obtain ⟨h1,h2⟩:=(hm _ _).1 hs
  ·exact ⟨s,h1,h2,rfl⟩
  ·exact ⟨s,h1,h2,rfl⟩
 ·rintro ⟨s,h1,h2,h3⟩;dsimp only at h2 h3;subst h3;cases m with
  |false=>exact .inl (List.mem_map.2 ⟨s,(hm _ _).2 ⟨h1,h2⟩,rfl⟩)
  |true=>exact .inr (List.mem_map.2 ⟨s,(hm _ _).2 ⟨h1,h2⟩,rfl⟩)
structure ProofF (b:dO) (st:List Int) (eO found:Bool):Prop where
 no:found=false->st= []∧eO=false∧qR b=true
 yes:found=true->qR b=false∧∃s,s<2 ^ b.steps.length∧st=Bi (kK s)∧gP (fA b (-1)) (b.steps.length+1) s eO=true
 best:∀s m,s<2 ^ b.steps.length->gP (fA b (-1)) (b.steps.length+1) s m=true->found=true∧st.length<=(kK s).length
theorem proof_best {b:dO} {st:List Int} {eO found:Bool} (hc:fG b=0) (h:lq (fU (fA b (-1)) b.steps.length (iI (fA b (-1)) b.steps.length false).length (iI (fA b (-1)) b.steps.length true).length) st eO found):ProofF b st eO found:=by
 have hn:dZ b (-1)=b.steps.length+1:=if_neg (by omega);have hh:qR b=false↔∃s m,s<2 ^ b.steps.length∧gP (fA b (-1)) (b.steps.length+1) s m=true:=by unfold qR;rw [hn];exact holds_proves (webL_within hc)
 rcases h with ⟨rfl,hi,rfl,rfl⟩|⟨rfl,hi,hb⟩
 ·have none:∀s m,s<2 ^ b.steps.length->¬gP (fA b (-1)) (b.steps.length+1) s m=true:= λs m h1 h2=>by
   have :=(mem_items (x:=(Bi (kK s),m))).2 ⟨s,h1,h2,rfl⟩;rw [hi] at this;cases this
  refine ⟨λ_=>⟨rfl,rfl,?_⟩, λh=>(by cases h), λs m h1 h2=>absurd h2 (none s m h1)⟩;cases hx:qR b with
  |true=>rfl
  |false=>
   obtain ⟨s,m,h1,h2⟩:=hh.1 hx;exact absurd h2 (none s m h1)
 ·obtain ⟨s,h1,h2,h3⟩:=mem_items.1 hi;dsimp only at h2 h3;refine ⟨λh=>(by cases h), λ_=>⟨hh.2 ⟨s,eO,h1,h2⟩,s,h1,h3,h2⟩, λs' m h4 h5=>⟨rfl,?_⟩⟩;have :=hb _ ((mem_items (x:=(Bi (kK s'),m))).2 ⟨s',h4,h5,rfl⟩);apply Classical.byContradiction;intro hx;refine this (.inl ?_);show (Bi (kK s')).length<st.length;unfold Bi;rw [List.length_map];omega
end
end Go.Proofs
end
section
namespace Go.Proofs
open Go Go.RowKit Go.Maps Go.Proofs.Tryz
noncomputable def Tryz.body12:Code:=Tryz.f12.body.getD .skip
noncomputable def Tryz.ops12:Array Oper:=((gG 11 Tryz.body12).getD (#[],.skip)).1
noncomputable def Tryz.z12:Code:=((gG 11 Tryz.body12).getD (#[],.skip)).2
theorem hits_at {P:Program} {b:Frame} {k:List Item} {cs:List Frame} {z c:Code} {T:Act->World->Prop} {a:Act} {w:World} (hz:z=c) (h:T a w):Par.vQ P b k cs z T c a w:=hz ▸ Par.vQ.here h
theorem rd_more {w:World} {B B' size n:Nat} {A:Option Addr} {f:Nat->Nat->Value} (h:Rd w B size A n f) (hB:B<=B'):Rd w B' size A n f:= λhn=>by
 obtain ⟨b,o,e,h1,h2⟩:=h hn;exact ⟨b,o,e,Nat.lt_of_lt_of_le h1 hB,h2⟩
variable [Lo.St]
theorem bk_more {w:World} {B B':Nat} {b:dO} {v:gJ} (h:fC w B b v) (hB:B<=B'):fC w B' b v:=
 ⟨rd_more h.dJ hB,rd_more h.dz hB,rd_more h.steps hB, λi s e=>rd_more (h.ins i s e) hB, λi s e=>rd_more (h.outs i s e) hB,rd_more h.dA hB,h.lh,h.lp,h.ls,h.lc⟩
def setP (n set:Nat):List Int:=Bi (nk set n)
theorem Lo.masses_g {w:World} {B:Nat} {b:dO} {v:gJ} {x:Value} (hx:x=dY b v) (hb:fC w B b v) (hB:B<=w.heap.size) (hs:b.small) (hc:fG b=0):
 Calls Lo.prog 15 #[x] w λe w'=>(∃A n c,e= .returned (.tuple #[.slice A n c,.int .i64 (if qR b=true then 0 else 9)]))∧Below w.heap.size w w':=by
 refine (Lo.K8 hx hb hB hs).mono λe w' h=>?_
 obtain ⟨h1,h2⟩:=h;rw [if_neg (by rw [hc];simp)] at h2;refine ⟨?_,h1⟩
 by_cases hh:qR b=true
 ·rw [if_pos hh] at h2 ⊢;obtain ⟨A,cap,rfl, -⟩:=h2;exact ⟨_,_,_,rfl⟩
 ·rw [if_neg hh] at h2 ⊢;exact ⟨_,_,_,h2⟩
theorem setP_ok (n set:Nat):prvF n (-1) (setP n set)=0∧bitsL (setP n set)=set%2 ^ n:=
 ⟨prv_zero (λx hx=>⟨by omega,(listTo_mem.1 hx).1⟩) (listTo_sorted _ _),bits_to set n⟩
structure T12 (B:Nat) (w0:World) (b:dO) (v:gJ) (set:Nat) (m:Bool) (a:Act) (w:World):Prop where
 d:a.defers= []
 sz:a.tmps.size=129
 e3:a.tmps[3]?=some (.pointer (some ⟨w0.heap.size,0,none⟩))
 e6:a.tmps[6]?=some (.bool false)
 e7:∃A c,a.tmps[7]?=some (.slice A (setP b.steps.length set).length c)
 e9:a.tmps[9]?=some (.bool (gP (fA b (-1)) (b.steps.length+1) (set%2 ^ b.steps.length) m))
 e10:a.tmps[10]?=some (.int .i64 0)
 e12:a.tmps[12]?=some (.int .i64 (if qR b=true then 0 else 9))
 bel:Below w0.heap.size w0 w
 box:w.heap[w0.heap.size]?=some (.cells #[.slice v.ah b.dJ.length v.ch,.slice v.ap b.dz.length v.cp,.slice v.iT b.steps.length v.cs,.slice v.ac b.dA.length v.cc] 26)
theorem Lo.tproved_skip {w:World} {B:Nat} {b:dO} {v:gJ} {set:Int} {m:Bool} (h5:ai2) (hb:fC w B b v) (hB:B<=w.heap.size) (hbc:GG b v) (hx:Dz b=true∨fG b≠0):
 Calls Lo.prog 12 #[dY b v,.int .u8 set,.bool m] w λe w'=>e= .returned (.bool true):=by
 obtain ⟨U,U2,U3,U4,U5,U6⟩:=Lo.facts;have C:=Lo.call Tryz.func13;have C2:=Lo.call Tryz.func18;have C3:=Lo.call14;have H5:=Lib.hid h5;obtain ⟨X,hX,sX,bX,hA,hC⟩:=book_box hb hB;have HC:=Lib.hid hC;have HA:=Lib.hid hA;have HX:=Lib.hid (And.intro hX bX);have HBC:=Lib.hid hbc;have HXX:=Lib.hid hx;clear hX bX hA hC hb h5 hbc hx;obtain ⟨f0,f1,f2,f3⟩:=al8 (HC.out X (Below.refl _ _));show Calls Lo.prog 12 #[Value.agg (lN b v),_,_] w _;unfold lN;go_enter Lo.get Tryz.func12,Tryz.ntmps12;go_wp2;have hy:=HX.out.1;unfold lN at hy;rw [hy];clear hy;refine (Lo.aa0 (b:=b) (v:=v) rfl (HA.out X (Below.refl _ _)) (by omega)).mono ?_
 rintro e w1 ⟨rfl,h1⟩;obtain ⟨f0,f1,f2,f3⟩:=al8 (HC.out w1 h1);cases hg:Dz b with
 |true=>
  go_wp2;refine (H5.out _).mono ?_
  rintro e w5 ⟨rfl,rfl⟩;go_wp2;go_ret;rfl
 |false=>
  have hs:=Vz hg;have hcx:=HXX.out.resolve_left (by rw [hg];simp);clear hg;go_wp2;refine (Lo.YR (b:=b) (v:=v) rfl (HA.out w1 h1) (by have :=h1.size;omega) hs HBC.out).mono ?_
  rintro e w2 ⟨rfl,h2⟩;generalize fG b=cx at hcx ⊢;have z2:(cx !=0)=true:=by simpa using hcx
  go_wp2;refine (H5.out _).mono ?_
  rintro e w5 ⟨rfl,rfl⟩;go_wp2;go_ret;rfl
theorem Lo.tproved_pre {w:World} {B:Nat} {b:dO} {v:gJ} {set:Nat} {m:Bool} {z:Code} (hz:z= .seq (.region 11 Tryz.ops12 false) Tryz.z12) (hb:fC w B b v) (hB:B<=w.heap.size) (hbc:GG b v) (hg:Dz b=false) (hc:fG b=0) (nE:set<256):
 Par.vQ Lo.prog (Conc.base 12) [] [Par.stk] z (T12 B w b v set m) Tryz.body12 ⟨#[dY b v,.int .u8 (set:Int),.bool m]++Array.replicate 126 undef,[]⟩ w:=by
 obtain ⟨U,U2,U3,U4,U5,U6⟩:=Lo.facts;have C:=Lo.call Tryz.func13;have C2:=Lo.call Tryz.func18;have C4:=Lo.call Tryz.func40;have C5:=Lo.call Tryz.func15;obtain ⟨X,hX,sX,bX,hA,hC⟩:=book_box hb hB;have hs:=Vz hg;have hn8:=(lM hs hc).n8;have HC:=Lib.hid hC;have HA:=Lib.hid hA;have HX:=Lib.hid (And.intro hX bX);have HBC:=Lib.hid hbc;have HG:=Lib.hid (And.intro hg hc);have HZ:=Lib.hid hz;clear hX bX hA hC hb hbc hg hc hz;obtain ⟨f0,f1,f2,f3⟩:=al8 (HC.out X (Below.refl _ _));unfold dY;simp only [Tryz.body12,Tryz.f12,Option.getD_some,Array.replicate_succ,Array.replicate_zero,List.push_toArray,List.append_toArray,List.nil_append,List.cons_append];refine Par.vQ.seq ?_
 go_wp2;have hy:=HX.out.1;unfold lN at hy;rw [hy];clear hy;refine Par.vQ.seq ?_
 go_wp2;refine (Lo.aa0 (b:=b) (v:=v) rfl (HA.out X (Below.refl _ _)) (by omega)).mono ?_
 rintro e w1 ⟨rfl,h1⟩;obtain ⟨f0,f1,f2,f3⟩:=al8 (HC.out w1 h1);rw [HG.out.1];go_wp2;refine (Lo.YR (b:=b) (v:=v) rfl (HA.out w1 h1) (by have :=h1.size;omega) hs HBC.out).mono ?_
 rintro e w2 ⟨rfl,h2⟩;replace h2:=h1.trans (h2.mono h1.size);clear h1 f0 f1 f2 f3;obtain ⟨f0,f1,f2,f3⟩:=al8 (HC.out w2 h2);rw [HG.out.2];have H2:=Lib.hid h2;clear h2;go_wp2;refine Par.vQ.seq ?_
 go_wp2;refine Par.vQ.seq ?_
 go_wp2;have sz2:X.heap.size<=w2.heap.size:=H2.out.size;obtain ⟨i3,hi3,hz3,hz31,hz32⟩:=info_parts Lo.info3
 go_loopw [7,8] (λu i wr=>∃k:Nat,k<=b.steps.length∧i= .int .i64 (k:Int)∧wr.ownsRow w2.heap.size 3 1 u (setP k set).length ((setP k set).map λx=>.int .i64 x)∧Below w2.heap.size w2 wr) (λ_ i _=>b.steps.length - (intOf i).toNat)
 case atStart=>exact ⟨0,Nat.zero_le _,rfl,World.ownsRow_nil _ _ _ _,Below.refl _ _⟩
 case round=>
  obtain ⟨k,hk,rfl,hown,hbw⟩:=hrel;have szr:w2.heap.size<=wr.heap.size:=hbw.size;have hXr:=H2.out.trans (hbw.mono sz2);obtain ⟨f0,f1,f2,f3⟩:=al8 (HC.out wr hXr);have HW:=Lib.hid (And.intro hown hbw);clear hown hbw hXr
  by_cases hlt:k<b.steps.length
  ·have hlt':(k:Int)<(b.steps.length:Int):=by omega
   have ls:=Ay set k;have ll:(setP k set).length<=k:=by unfold setP Bi;rw [List.length_map];exact CQ set k
   have hq:(((set:Int) / 2 ^ k).tmod 2==1)=decide (bit set k=1):=by
    have e:((set:Int) / 2 ^ k)=((set / 2 ^ k:Nat):Int):=by simp
    unfold bit;rw [e];generalize set / 2 ^ k=q;rw [Int.tmod_eq_emod_of_nonneg (Int.natCast_nonneg q)]
    by_cases h:q%2=1
    ·rw [decide_eq_true h,show (q:Int)%2=1 by omega];rfl
    ·rw [decide_eq_false h,show (q:Int)%2=0 by omega];rfl
   by_cases h1:bit set k=1
   ·rw [if_pos h1] at ls;rw [decide_eq_true h1] at hq;have HL:=Lib.hid (And.intro ls h1);clear ls h1
    go_wp2_with (at_builtin;refine wpList_append_own _ rfl _ _ 44 rfl w2.heap.size 3 i3 (.int .i64 0) 1 8 Lo.I1 hi3 hz3 hz31 hz32 rfl (by decide) _ _ _ rfl (World.ownsRow.alloc HW.out.1 _) ⟨wr.heap.size,0,none⟩ 1 1 [.int .i64 (k:Int)] rfl rfl ?c1 ?c2 ?c3 ?c4 ?c5 ?_)
    case c1=>exact World.news_of_block (t:=3) (fr:=(0,0)) (cs:= #[.int .i64 (k:Int)]) (World.alloc_heap_new _ _)
    case c2=>intro u hu;simp only [List.mem_cons,List.not_mem_nil,or_false] at hu;subst hu;rfl
    case c3=>unfold maxLen;omega
    case c4=>omega
    case c5=>rw [World.size_alloc];omega
    intro v3 X3 o3 g3 _;have hb4:Below w2.heap.size w2 X3:=(HW.out.2.alloc szr _).grown g3 (by rw [World.size_alloc];omega) (λk hk=>(HW.out.1.lt k hk).1)
    have o4:X3.ownsRow w2.heap.size 3 1 v3 (setP (k+1) set).length ((setP (k+1) set).map λx=>.int .i64 x):=by
     have e:setP (k+1) set=setP k set++ [(k:Int)]:=by unfold setP;rw [HL.out.1];unfold Bi;simp
     rw [e,List.length_append,List.map_append];exact o3
    have K:=Lib.hid (And.intro o4 hb4);clear o3 g3 o4 hb4;go_wp2;go_roundw
    case rel=>exact ⟨k+1,hlt,by go_num,K.out.1,K.out.2⟩
    case measure=>simp [intOf];omega
   ·rw [if_neg h1] at ls;rw [decide_eq_false h1] at hq;have e:setP (k+1) set=setP k set:=by unfold setP;rw [ls]
    have HL:=Lib.hid e;clear ls h1 e;go_wp2;go_roundw
    case rel=>exact ⟨k+1,hlt,by go_num,by rw [HL.out];exact HW.out.1,HW.out.2⟩
    case measure=>simp [intOf];omega
  ·obtain rfl:k=b.steps.length:=by omega
   go_wp2;obtain ⟨ηa,cu,hu,_,hul⟩:=ownsRow.PT (B:=wr.heap.size) HW.out.1;replace hul:=hul (Nat.le_refl _);subst hu;have hl8:(setP b.steps.length set).length<=8:=by unfold setP Bi;rw [List.length_map];exact Nat.le_trans (CQ _ _) hn8
   have HU:=Lib.hid hul;clear hul;have hXr:=H2.out.trans (HW.out.2.mono sz2);have HXR:=Lib.hid hXr;clear hXr;refine Par.vQ.seq ?_
   go_wp2;refine (Lo.tproves_any (b:=b) (v:=v) rfl (bk_more (HA.out wr HXR.out) (by omega)) (Nat.le_refl _) hs HU.out (by omega)).mono ?_
   rintro e w3 ⟨h3,he⟩;rw [if_neg (by rw [HG.out.2];simp),if_neg (by rw [(setP_ok _ _).1];simp),(setP_ok _ _).2] at he;subst he;have h3X:=HXR.out.trans (h3.mono HXR.out.size);clear f0 f1 f2 f3;obtain ⟨f0,f1,f2,f3⟩:=al8 (HC.out w3 h3X);have H3:=Lib.hid h3X;clear h3X h3;go_wp2;refine Par.vQ.seq ?_
   go_wp2;refine (Lo.masses_g (b:=b) (v:=v) rfl (HA.out w3 H3.out) (by have :=H3.out.size;omega) hs HG.out.2).mono ?_
   rintro e w4 ⟨⟨ψH,nm,cm,rfl⟩,h4⟩;have h4X:=H3.out.trans (h4.mono H3.out.size);obtain ⟨q,hq⟩:∃q:Int,(if qR b=true then 0 else 9)=q:=⟨_,rfl⟩;rw [hq];have H4:=Lib.hid h4X;have HQ:=Lib.hid hq;clear h4 h4X hq;go_wp2;refine hits_at (HZ.out.trans (by kernel_rfl)) ⟨rfl,rfl,rfl,rfl,⟨_,_,rfl⟩,rfl,rfl,by rw [HQ.out];rfl,HX.out.2.trans (H4.out.mono HX.out.2.size),HC.out w4 H4.out⟩
end Go.Proofs
end
section
namespace Go.Proofs
open Go Go.RowKit Go.Maps Go.Proofs.Tryz
theorem cell_hq {w w':World} {x:Nat} (h:w'.heap[x]?=w.heap[x]?) (o:Nat):w'.cell? ⟨x,o,none⟩=w.cell? ⟨x,o,none⟩:=by
 unfold World.cell?;simp only [h]
theorem getD_of {T:Array Value} {i:Nat} {v:Value} (h:T[i]?=some v):T.getD i undef=v:=by
 rw [Array.getD_eq_getD_getElem?,h];rfl
theorem rest_ops {P:Program} {ops:Array Oper} {Q:Exit->Act->World->Prop} {a:Act} {w:World} {k n:Nat} (hn:(ops.toList.drop k).length=n) (h:wpList P ops Q (ops.toList.drop k) a w):wpOps P ops Q (List.range' k n) a w:=by
 rw [<-hn,wpOps_eq_wpList (ops.toList.drop k) k (λj=>by simp)];exact h
variable [Lo.St]
theorem Lo.tproved_tail {w0 w w':World} {B:Nat} {b:dO} {v v':gJ} {set:Nat} {m:Bool} {a:Act} {A:Option Addr} {cap:Nat} {st:List Int} {eO found:Bool} (h5:ai2) (hb:fC w0 B b v) (hB:B<=w0.heap.size) (hg:Dz b=false) (hc:fG b=0) (hT:T12 B w0 b v set m a w) (hsz:w.heap.size<=w'.heap.size) (hsame:∀x,x<w.heap.size->w'.heap[x]?=w.heap[x]?) (hp:ProofF b st eO found) (hlen:st.length<=16) (hr:xJ w' w'.heap.size A st):
 wpOps Lo.prog Tryz.ops12 (λe a w=>e= .normal∧Tryz.z12.wp Lo.prog (bodyPost Lo.prog Tryz.f12 λe w'=>∃x,e= .returned x∧x= .bool true) a w) (List.range' 2 9) ((a.put (some 55) (dY b v')).put (some 56) (proofT A st.length cap eO found)) w':=by
 obtain ⟨U,U2,U3,U4,U5,U6⟩:=Lo.facts;have C3:=Lo.call14;have C4:=Lo.call Tryz.func40;have H5:=Lib.hid h5;obtain ⟨d,sz,e3,e6,⟨ωb,cl,e7⟩,e9,e10,e12,bel,box⟩:=hT;have hs:=Vz hg;have hn8:=(lM hs hc).n8;have hbx:w0.heap.size<w.heap.size:=(Array.getElem?_eq_some_iff.1 box).1;have hb':fC w' B b v:=hb.keep λx o hx=>(cell_hq (hsame x (by omega)) o).trans (cell_hq (bel.block x (by omega)) o)
 have hbox:=(hsame _ hbx).trans box;have HB:=Lib.hid (And.intro hb' (And.intro hbox (And.intro hc hs)));have iq:=hp.best (set%2 ^ b.steps.length) m (Nat.mod_lt _ (Nat.pow_pos (by decide)));rw [listOf_mod (by omega)] at iq;have hll:(setP b.steps.length set).length=(nk set b.steps.length).length:=by unfold setP Bi;simp
 rw [<-hll] at iq;obtain ⟨T,δi⟩:=a;dsimp only at d sz e3 e6 e7 e9 e10 e12;subst d;have g3:=getD_of e3;have g6:=getD_of e6;have g7:=getD_of e7;have g9:=getD_of e9;have g10:=getD_of e10;have g12:=getD_of e12;clear hb hb' hbox box bel hsame e3 e6 e7 e9 e10 e12 hc h5 hll;refine rest_ops (by kernel_rfl) ?_
 simp only [Tryz.ops12,Tryz.z12,Tryz.body12,Tryz.f12,gG,jF,Option.getD_some,Nat.reduceEqDiff,if_true,if_false,reduceIte,List.drop_succ_cons,List.drop_zero];unfold proofT;obtain ⟨nl,hnl⟩:∃nl,(setP b.steps.length set).length=nl:=⟨_,rfl⟩;rw [hnl] at g7 iq;obtain ⟨f0,f1,f2,f3⟩:=al8 HB.out.2.1;cases found with
 |false=>
  obtain ⟨h1,h2,h3⟩:=hp.no rfl;subst h1 h2
  have hok:gP (fA b (-1)) (b.steps.length+1) (set%2 ^ b.steps.length) m=false:=by
   cases hx:gP (fA b (-1)) (b.steps.length+1) (set%2 ^ b.steps.length) m with
   |false=>rfl
   |true=>have :=(iq hx).1;cases this
  rw [hok] at g9;rw [h3] at g12;clear hok h3 hp iq hnl;revert g3 g6 g7 g9 g10 g12;apply ng sz
  iterate 129 intro _
  rintro ⟨⟩ ⟨⟩ ⟨⟩ ⟨⟩ ⟨⟩ ⟨⟩;simp only [Act.put,List.setIfInBounds_toArray,List.set_cons_succ,List.set_cons_zero];go_wp2;refine (H5.out _).mono ?_
  rintro e w5 ⟨rfl,rfl⟩;go_wp2;go_ret
  first |rfl|exact ⟨_,rfl,rfl⟩
 |true=>
  obtain ⟨h3,s,hs1,hst,hs2⟩:=hp.yes rfl;obtain ⟨q1,q2⟩:=listOf_bits (by omega) hs1;rw [<-hst] at q1 q2;rw [h3] at g12;have HQ:=Lib.hid (And.intro q1 (And.intro q2 (And.intro hs2 hr)));have I8:=Lib.hid iq;clear h3 hp hst hs1 hs2 q1 q2 hnl iq hr
  have vg:(!gP (fA b (-1)) (b.steps.length+1) (set%2 ^ b.steps.length) m||decide ((st.length:Int)<=(nl:Int)))=true:=by
   cases hx:gP (fA b (-1)) (b.steps.length+1) (set%2 ^ b.steps.length) m with
   |false=>rfl
   |true=>
    have :=(I8.out hx).2;simp;omega
  clear I8;revert vg;generalize gP (fA b (-1)) (b.steps.length+1) (set%2 ^ b.steps.length) m=ok at g9;intro vg;have HF:=Lib.hid vg;clear vg;revert g3 g6 g7 g9 g10 g12;apply ng sz
  iterate 129 intro _
  rintro ⟨⟩ ⟨⟩ ⟨⟩ ⟨⟩ ⟨⟩ ⟨⟩;simp only [Act.put,List.setIfInBounds_toArray,List.set_cons_succ,List.set_cons_zero];have fin:∀X:World,Calls Lo.prog 14 #[] X λe w'=>e= .returned (.bool true)∧w'=X:=H5.out
  cases ok with
  |false=>
   go_wp2;refine (Lo.tproves_any (b:=b) (v:=v) rfl (bk_more HB.out.1 (by omega)) (Nat.le_refl _) HB.out.2.2.2 HQ.out.2.2.2 (by omega)).mono ?_
   rintro e w3 ⟨h3,he⟩;rw [if_neg (by rw [HB.out.2.2.1];simp),if_neg (by rw [HQ.out.2.1];simp),HQ.out.1,HQ.out.2.2.1] at he;subst he;go_wp2;refine (H5.out _).mono ?_
   rintro e w5 ⟨rfl,rfl⟩;go_wp2;go_ret
   first |rfl|exact ⟨_,rfl,rfl⟩
  |true=>
   have hnl:(st.length:Int)<=(nl:Int):=by simpa using HF.out
   go_wp2;refine (Lo.tproves_any (b:=b) (v:=v) rfl (bk_more HB.out.1 (by omega)) (Nat.le_refl _) HB.out.2.2.2 HQ.out.2.2.2 (by omega)).mono ?_
   rintro e w3 ⟨h3,he⟩;rw [if_neg (by rw [HB.out.2.2.1];simp),if_neg (by rw [HQ.out.2.1];simp),HQ.out.1,HQ.out.2.2.1] at he;subst he;go_wp2;refine (H5.out _).mono ?_
   rintro e w5 ⟨rfl,rfl⟩;go_wp2;go_ret
   first |rfl|exact ⟨_,rfl,rfl⟩
end Go.Proofs
end
