/- Part 8. -/
import Derived.Laws.IdiomStrings
import Derived.Test.YtnemnkmojiljmaaGreatB05
set_option maxRecDepth 100000
set_option maxHeartbeats 0
set_option linter.all false
namespace Go.Proofs
open Go Go.RowKit
section
variable [Lo.St]
def Fp (c:Int):Bool:=(decide (c<97)||decide (122<c))&&(decide (c<48)||decide (57<c))&&!(c==45)
theorem Lo.K3 (c:Int) (w:World):Calls Lo.prog 119 #[.int .u8 c] w λe w'=>e= .returned (.bool (Fp c))∧w'=w:=by
 have U:=Lo.underlying;have U2:=Lo.runUnderlying;unfold Fp
 by_cases h1:c<97
 ·have d1:decide (c<97)=true:=by simpa using h1
  by_cases h3:c<48
  ·have d3:decide (c<48)=true:=by simpa using h3
   by_cases h5:c=45
   ·have d5:(c==45)=true:=by simpa using h5
    go_enter Lo.func119,Tryz.ntmps119;go_wp2;go_ret;exact ⟨by simp [d1,d3,d5];try omega,rfl⟩
   ·have d5:(c==45)=false:=by simpa using h5
    go_enter Lo.func119,Tryz.ntmps119;go_wp2;go_ret;exact ⟨by simp [d1,d3,d5];try omega,rfl⟩
  ·have d3:decide (c<48)=false:=by simpa using h3
   by_cases h4:57<c
   ·have d4:decide (57<c)=true:=by simpa using h4
    have d5:(c==45)=false:=by simp;omega
    go_enter Lo.func119,Tryz.ntmps119;go_wp2;go_ret;exact ⟨by simp [d1,d3,d4,d5];try omega,rfl⟩
   ·have d4:decide (57<c)=false:=by simpa using h4
    go_enter Lo.func119,Tryz.ntmps119;go_wp2;go_ret;exact ⟨by simp [d1,d3,d4],rfl⟩
 ·have d1:decide (c<97)=false:=by simpa using h1
  by_cases h2:122<c
  ·have d2:decide (122<c)=true:=by simpa using h2
   have d3:decide (c<48)=false:=by simp;omega
   have d4:decide (57<c)=true:=by simp;omega
   have d5:(c==45)=false:=by simp;omega
   go_enter Lo.func119,Tryz.ntmps119;go_wp2;go_ret;exact ⟨by simp [d1,d2,d3,d4,d5];try omega,rfl⟩
  ·have d2:decide (122<c)=false:=by simpa using h2
   go_enter Lo.func119,Tryz.ntmps119;go_wp2;go_ret;exact ⟨by simp [d1,d2],rfl⟩
abbrev RdB (w:World) (B:Nat) (A:Option Addr) (l:List Int):Prop:=Rd w B 1 A l.length λi _=>.int .u8 ((l[i]?).getD 0)
theorem rdB {w:World} {bb off k:Nat} {l:List Int} (hc:∀i j,i<l.length->j<1->w.cell? ⟨bb,off+(i*1+j),none⟩=some (.int .u8 ((l[i]?).getD 0))) (hlt:k<l.length):w.cell? ⟨bb,off+k,none⟩=some (.int .u8 l[k]):=by
 have :=hc k 0 hlt (by omega);rw [Nat.mul_one,aH] at this;rw [this,aO hlt];rfl
def JK:List Int->Nat->Int
 | [],_=> -1
 |x::l,k=>if Fp x then (k:Int) else JK l (k+1)
theorem Qe (l:List Int) (k:Nat) (h:k<l.length):JK (l.drop k) k=if Fp l[k] then (k:Int) else JK (l.drop (k+1)) (k+1):=by
 rw [aW h];rfl
theorem WC (l:List Int) (k:Nat):decide (0<=JK l k)=l.any Fp:=by
 induction l generalizing k with
 |nil=>rfl
 |cons x l ih=>
  unfold JK
  by_cases h:Fp x=true
  ·rw [aj h];simp [h]
  ·rw [aa h,ih];simp [h]
theorem Lo.SL {w:World} {B:Nat} {A:Option Addr} {l:List Int} {c:Nat} (h1:RdB w B A l) (hl:l.length<=100000):
 Calls Lo.prog 134 #[.slice A l.length c,.func (.func 119) #[] #[]] w λe w'=>e= .returned (.int .i64 (JK l 0))∧w'=w:=by
 obtain ⟨U,U2,U3,U4,U5,U6⟩:=Lo.facts;have C:=Lo.call119;go_enter Lo.func134,Tryz.ntmps134;go_wp2
 go_loopw [8] (λi wr=>∃k:Nat,k<=l.length∧i= .int .i64 (k:Int)∧JK (l.drop k) k=JK l 0∧wr=w) (λi _=>l.length - (intOf i).toNat)
 case atStart=>exact ⟨0,bn _,rfl,rfl,rfl⟩
 case round=>
  obtain ⟨k,hk,rfl,hx,rfl⟩:=hrel
  by_cases hlt:k<l.length
  ·have hlt':(k:Int)<(l.length:Int):=by omega
   obtain ⟨bb,off,rfl,hbb,hc⟩:=h1 (by omega);have r1:=rdB hc hlt;have hd:=Qe l k hlt;rw [hx] at hd;clear hc h1 hx;generalize l[k]=x at r1 hd;cases hq:Fp x with
   |true=>
    rw [aj hq] at hd;have HD:=dw hd;clear hd
    go_wp2_with (go_at_call 119;refine (Lo.K3 _ _).mono ?_;rintro e w1 ⟨rfl,rfl⟩;rw [hq])
    go_ret;exact ⟨by rw [HD.out];rfl,by simp⟩
   |false=>
    rw [aa (by rw [hq];simp)] at hd;have HD:=dw hd;clear hd
    go_wp2_with (go_at_call 119;refine (Lo.K3 _ _).mono ?_;rintro e w1 ⟨rfl,rfl⟩;rw [hq])
    go_roundw
    case rel=>exact ⟨k+1,by omega,by go_num,HD.out.symm,by simp⟩
    case measure=>simp [intOf];omega
  ·obtain rfl:k=l.length:=by omega
   have hx':(-1:Int)=JK l 0:=by rw [<-hx,aF];rfl
   have HX:=dw hx';clear hx hx';go_wp2;go_ret;exact ⟨by rw [<-HX.out];rfl,by simp⟩
theorem Lo.SN {w:World} {B:Nat} {A:Option Addr} {l:List Int} {c:Nat} (h1:RdB w B A l) (hl:l.length<=100000):
 Calls Lo.prog 118 #[.slice A l.length c,.func (.func 119) #[] #[]] w λe w'=>e= .returned (.bool (l.any Fp))∧w'=w:=by
 have U:=Lo.underlying;have U2:=Lo.runUnderlying;have C:=Lo.call134;go_enter Lo.func118,Tryz.ntmps118
 go_wp2_with (go_at_call 134;refine (Lo.SL h1 hl).mono ?_;rintro e w1 ⟨rfl,rfl⟩)
 go_ret;exact ⟨by rw [<-WC l 0];rfl,by simp⟩
end
section
variable [Lo.St]
def xE (s:ByteArray):List Int:=s.data.toList.map λb=>(b.toNat:Int)
theorem yU (s:ByteArray) (h:0<s.size):∃l,xE s=((s[0]'h).toNat:Int)::l:=by
 obtain ⟨⟨d⟩⟩:=s;cases d with
 |nil=>exact absurd h (by simp [ByteArray.size])
 |cons x d=>exact ⟨_,rfl⟩
def nk (s:ByteArray):Bool:=rO s.size 1 14&&(match xE s with | []=>false|c::_=>!(decide (c<97))&&!(decide (122<c)))&&!((xE s).any Fp)
theorem Lo.Qf (s:ByteArray) (w:World) (h:rO s.size 1 14=false):Calls Lo.prog 83 #[.string s] w λe w'=>e= .returned (.bool false)∧Below w.heap.size w w':=by
 have U:=Lo.underlying;have U2:=Lo.runUnderlying;have C:=Lo.call49;go_enter Lo.func83,Tryz.ntmps83
 go_wp2_with (go_at_call 49;refine (Lo.eZ _ _ _ _).mono ?_;rintro e w1 ⟨rfl,rfl⟩;rw [h])
 go_ret;exact ⟨rfl,di _ _⟩
theorem AJ (s:ByteArray):(xE s).length=s.size:=by
 unfold xE;rw [List.length_map,Array.length_toList];rfl
theorem SQ (s:ByteArray) (w:World) (cap:Nat) (fr:Nat×Nat):RdB (w.drew.alloc (.cells (bytesRow s cap) 5 fr)) (w.heap.size+1) (some ⟨w.heap.size,0,none⟩) (xE s):= λ_=>⟨w.heap.size,0,rfl,Nat.lt_succ_self _, λi j hi hj=>by
 obtain rfl:j=0:=by omega
 have hh:(w.drew.alloc (.cells (bytesRow s cap) 5 fr)).heap[w.heap.size]?=some (.cells (bytesRow s cap) 5 fr):=by
  show (w.heap.push _)[w.heap.size]?=_
  simp
 unfold World.cell?;simp only [hh];show (bytesRow s cap)[0+(i*1+0)]?=_
 rw [show 0+(i*1+0)=i from by omega];have hi2:i<s.data.size:=by rw [AJ] at hi;exact hi
 unfold bytesRow;rw [Array.getElem?_append_left (by rw [Array.size_map];exact hi2),aG];unfold xE;rw [List.getElem?_map,Array.getElem?_toList,aX hi2];rfl⟩
theorem Lo.ZI {w:World} {B n:Nat} {A:Option Addr} {l:List Int} {c:Nat} (hn:n=l.length) (h1:RdB w B A l) (hl:l.length<=100000):
 Calls Lo.prog 118 #[.slice A n c,.func (.func 119) #[] #[]] w λe w'=>e= .returned (.bool (l.any Fp))∧w'=w:=hn ▸ Lo.SN h1 hl
theorem Lo.Nb (s:ByteArray) (w:World) (h:rO s.size 1 14=true):Calls Lo.prog 83 #[.string s] w λe w'=>e= .returned (.bool (nk s))∧Below w.heap.size w w':=by
 have U:=Lo.underlying;have U2:=Lo.runUnderlying;have C:=Lo.call49;have hcv:= λw:World=>run_bytes_of_string (P:=Lo.prog) w 9 169 5 s ((Lo.underlying 9).trans (by kernel_rfl)) ((Lo.underlying 169).trans (by kernel_rfl)) ((Lo.underlying 5).trans (by kernel_rfl))
 have C2:=Lo.call118;have hp:0<s.size:=by simp [rO] at h;omega
 have hp2:s.size<=14:=by simp [rO] at h;omega
 go_enter Lo.func83,Tryz.ntmps83
 go_wp2_with (go_at_call 49;refine (Lo.eZ _ _ _ _).mono ?_;rintro e w1 ⟨rfl,rfl⟩;rw [h])
 ·go_ret;rename_i h1;obtain ⟨l,hl⟩:=yU s hp;have hr:nk s=false:=by unfold nk;rw [hl];simp;intro _ h2;omega
  exact ⟨by rw [hr];rfl,di _ _⟩
 ·go_wp2_with (go_at_call 118;refine (Lo.ZI (l:=xE s) (AJ s).symm (SQ s _ _ _) (by rw [AJ];omega)).mono ?_;rintro e w1 ⟨rfl,rfl⟩)
  go_ret;rename_i g1 g2;obtain ⟨l,hl⟩:=yU s hp
  have hr:nk s=!(xE s).any Fp:=by
   unfold nk;rw [h];rw [hl];simp;intro;omega
  exact ⟨by rw [hr];rfl,(di _ _).drew.alloc (aJ _) _⟩
 ·go_ret;rename_i h1;obtain ⟨l,hl⟩:=yU s hp;have hr:nk s=false:=by unfold nk;rw [hl];simp;intro _ h2;omega
  exact ⟨by rw [hr];rfl,di _ _⟩
end
end Go.Proofs
