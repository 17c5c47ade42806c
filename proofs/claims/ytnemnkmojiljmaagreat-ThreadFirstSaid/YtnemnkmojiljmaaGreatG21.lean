/- Part 21. -/
import Derived.Test.YtnemnkmojiljmaaGreatG18
set_option maxRecDepth 100000
set_option maxHeartbeats 0
set_option linter.all false
namespace Go.Proofs
open Go Go.RowKit
section
variable [Lo.St]
def wR (c:Int):Bool:=(decide (c<97)||decide (122<c))&&(decide (c<48)||decide (57<c))&&!(c==45)
theorem Lo.M9 (c:Int) (w:World):Calls Lo.prog 119 #[.int .u8 c] w λe w'=>e= .returned (.bool (wR c))∧w'=w:=by
 have U:=Lo.underlying;have U2:=Lo.runUnderlying;unfold wR
 by_cases h1:c<97
 ·have d1:decide (c<97)=true:=by simpa using h1
  by_cases h3:c<48
  ·have d3:decide (c<48)=true:=by simpa using h3
   by_cases h5:c=45
   ·have d5:(c==45)=true:=by simpa using h5
    go_enter Lo.get Tryz.func119,Tryz.ntmps119;go_wp2;go_ret;exact ⟨by simp [d1,d3,d5];try omega,rfl⟩
   ·have d5:(c==45)=false:=by simpa using h5
    go_enter Lo.get Tryz.func119,Tryz.ntmps119;go_wp2;go_ret;exact ⟨by simp [d1,d3,d5];try omega,rfl⟩
  ·have d3:decide (c<48)=false:=by simpa using h3
   by_cases h4:57<c
   ·have d4:decide (57<c)=true:=by simpa using h4
    have d5:(c==45)=false:=by simp;omega
    go_enter Lo.get Tryz.func119,Tryz.ntmps119;go_wp2;go_ret;exact ⟨by simp [d1,d3,d4,d5];try omega,rfl⟩
   ·have d4:decide (57<c)=false:=by simpa using h4
    go_enter Lo.get Tryz.func119,Tryz.ntmps119;go_wp2;go_ret;exact ⟨by simp [d1,d3,d4],rfl⟩
 ·have d1:decide (c<97)=false:=by simpa using h1
  by_cases h2:122<c
  ·have d2:decide (122<c)=true:=by simpa using h2
   have d3:decide (c<48)=false:=by simp;omega
   have d4:decide (57<c)=true:=by simp;omega
   have d5:(c==45)=false:=by simp;omega
   go_enter Lo.get Tryz.func119,Tryz.ntmps119;go_wp2;go_ret;exact ⟨by simp [d1,d2,d3,d4,d5];try omega,rfl⟩
  ·have d2:decide (122<c)=false:=by simpa using h2
   go_enter Lo.get Tryz.func119,Tryz.ntmps119;go_wp2;go_ret;exact ⟨by simp [d1,d2],rfl⟩
abbrev RdB (w:World) (B:Nat) (A:Option Addr) (l:List Int):Prop:=Rd w B 1 A l.length λi _=>.int .u8 ((l[i]?).getD 0)
theorem rdB {w:World} {bb off k:Nat} {l:List Int} (hc:∀i j,i<l.length->j<1->w.cell? ⟨bb,off+(i*1+j),none⟩=some (.int .u8 ((l[i]?).getD 0))) (hlt:k<l.length):w.cell? ⟨bb,off+k,none⟩=some (.int .u8 l[k]):=by
 have :=hc k 0 hlt (by omega);rw [Nat.mul_one,aH] at this;rw [this,aO hlt];rfl
def K5:List Int->Nat->Int
 | [],_=> -1
 |x::l,k=>if wR x then (k:Int) else K5 l (k+1)
theorem SE (l:List Int) (k:Nat) (h:k<l.length):K5 (l.drop k) k=if wR l[k] then (k:Int) else K5 (l.drop (k+1)) (k+1):=by
 rw [aW h];rfl
theorem YK (l:List Int) (k:Nat):decide (0<=K5 l k)=l.any wR:=by
 induction l generalizing k with
 |nil=>rfl
 |cons x l ih=>
  unfold K5
  by_cases h:wR x=true
  ·rw [aj h];simp [h]
  ·rw [aa h,ih];simp [h]
theorem Lo.VJ {w:World} {B:Nat} {A:Option Addr} {l:List Int} {c:Nat} (h1:RdB w B A l) (hl:l.length<=100000):
 Calls Lo.prog 134 #[.slice A l.length c,.func (.func 119) #[] #[]] w λe w'=>e= .returned (.int .i64 (K5 l 0))∧w'=w:=by
 obtain ⟨U,U2,U3,U4,U5,U6⟩:=Lo.facts;have C:=Lo.call Tryz.func119;go_enter Lo.get Tryz.func134,Tryz.ntmps134;go_wp2
 go_loopw [8] (λi wr=>∃k:Nat,k<=l.length∧i= .int .i64 (k:Int)∧K5 (l.drop k) k=K5 l 0∧wr=w) (λi _=>l.length - (intOf i).toNat)
 case atStart=>exact ⟨0,bq _,rfl,rfl,rfl⟩
 case round=>
  obtain ⟨k,hk,rfl,hx,rfl⟩:=hrel
  by_cases hlt:k<l.length
  ·have hlt':(k:Int)<(l.length:Int):=by omega
   obtain ⟨bb,off,rfl,hbb,hc⟩:=h1 (by omega);have r1:=rdB hc hlt;have hd:=SE l k hlt;rw [hx] at hd;clear hc h1 hx;generalize l[k]=x at r1 hd;cases hq:wR x with
   |true=>
    rw [aj hq] at hd;have HD:=dB hd;clear hd
    go_wp2_with (go_at_call 119;refine (Lo.M9 _ _).mono ?_;rintro e w1 ⟨rfl,rfl⟩;rw [hq])
    go_ret;exact ⟨by rw [HD.out];rfl,by simp⟩
   |false=>
    rw [aa (by rw [hq];simp)] at hd;have HD:=dB hd;clear hd
    go_wp2_with (go_at_call 119;refine (Lo.M9 _ _).mono ?_;rintro e w1 ⟨rfl,rfl⟩;rw [hq])
    go_roundw
    case rel=>exact ⟨k+1,by omega,by go_num,HD.out.symm,by simp⟩
    case measure=>simp [intOf];omega
  ·obtain rfl:k=l.length:=by omega
   have hx':(-1:Int)=K5 l 0:=by rw [<-hx,aF];rfl
   have HX:=dB hx';clear hx hx';go_wp2;go_ret;exact ⟨by rw [<-HX.out];rfl,by simp⟩
theorem Lo.VK {w:World} {B:Nat} {A:Option Addr} {l:List Int} {c:Nat} (h1:RdB w B A l) (hl:l.length<=100000):
 Calls Lo.prog 118 #[.slice A l.length c,.func (.func 119) #[] #[]] w λe w'=>e= .returned (.bool (l.any wR))∧w'=w:=by
 have U:=Lo.underlying;have U2:=Lo.runUnderlying;have C:=Lo.call Tryz.func134;go_enter Lo.get Tryz.func118,Tryz.ntmps118
 go_wp2_with (go_at_call 134;refine (Lo.VJ h1 hl).mono ?_;rintro e w1 ⟨rfl,rfl⟩)
 go_ret;exact ⟨by rw [<-YK l 0];rfl,by simp⟩
end
section
variable [Lo.St]
def oO (s:ByteArray):List Int:=s.data.toList.map λb=>(b.toNat:Int)
theorem pz (s:ByteArray) (h:0<s.size):∃l,oO s=((s[0]'h).toNat:Int)::l:=by
 obtain ⟨⟨d⟩⟩:=s;cases d with
 |nil=>exact absurd h (by simp [ByteArray.size])
 |cons x d=>exact ⟨_,rfl⟩
def gM (s:ByteArray):Bool:=nQ s.size 1 14&&(match oO s with | []=>false|c::_=>!(decide (c<97))&&!(decide (122<c)))&&!((oO s).any wR)
theorem Lo.SF (s:ByteArray) (w:World) (h:nQ s.size 1 14=false):Calls Lo.prog 83 #[.string s] w λe w'=>e= .returned (.bool false)∧Below w.heap.size w w':=by
 have U:=Lo.underlying;have U2:=Lo.runUnderlying;have C:=Lo.call Tryz.func49;go_enter Lo.get Tryz.func83,Tryz.ntmps83
 go_wp2_with (go_at_call 49;refine (Lo.fo _ _ _ _).mono ?_;rintro e w1 ⟨rfl,rfl⟩;rw [h])
 go_ret;exact ⟨rfl,dz _ _⟩
theorem sW (s:ByteArray):(oO s).length=s.size:=by
 unfold oO;rw [List.length_map,Array.length_toList];rfl
theorem VL (s:ByteArray) (w:World) (cap:Nat) (fr:Nat×Nat):RdB (w.drew.alloc (.cells (bytesRow s cap) 5 fr)) (w.heap.size+1) (some ⟨w.heap.size,0,none⟩) (oO s):= λ_=>⟨w.heap.size,0,rfl,Nat.lt_succ_self _, λi j hi hj=>by
 obtain rfl:j=0:=by omega
 have hh:(w.drew.alloc (.cells (bytesRow s cap) 5 fr)).heap[w.heap.size]?=some (.cells (bytesRow s cap) 5 fr):=by
  show (w.heap.push _)[w.heap.size]?=_
  simp
 unfold World.cell?;simp only [hh];show (bytesRow s cap)[0+(i*1+0)]?=_
 rw [show 0+(i*1+0)=i from by omega];have hi2:i<s.data.size:=by rw [sW] at hi;exact hi
 unfold bytesRow;rw [Array.getElem?_append_left (by rw [Array.size_map];exact hi2),aG];unfold oO;rw [List.getElem?_map,Array.getElem?_toList,aX hi2];rfl⟩
theorem Lo.af8 {w:World} {B n:Nat} {A:Option Addr} {l:List Int} {c:Nat} (hn:n=l.length) (h1:RdB w B A l) (hl:l.length<=100000):
 Calls Lo.prog 118 #[.slice A n c,.func (.func 119) #[] #[]] w λe w'=>e= .returned (.bool (l.any wR))∧w'=w:=hn ▸ Lo.VK h1 hl
theorem Lo.OX (s:ByteArray) (w:World) (h:nQ s.size 1 14=true):Calls Lo.prog 83 #[.string s] w λe w'=>e= .returned (.bool (gM s))∧Below w.heap.size w w':=by
 have U:=Lo.underlying;have U2:=Lo.runUnderlying;have C:=Lo.call Tryz.func49;have hcv:= λw:World=>run_bytes_of_string (P:=Lo.prog) w 9 169 5 s ((Lo.underlying 9).trans (by kernel_rfl)) ((Lo.underlying 169).trans (by kernel_rfl)) ((Lo.underlying 5).trans (by kernel_rfl))
 have C2:=Lo.call Tryz.func118;have hp:0<s.size:=by simp [nQ] at h;omega
 have hp2:s.size<=14:=by simp [nQ] at h;omega
 go_enter Lo.get Tryz.func83,Tryz.ntmps83
 go_wp2_with (go_at_call 49;refine (Lo.fo _ _ _ _).mono ?_;rintro e w1 ⟨rfl,rfl⟩;rw [h])
 ·go_ret;rename_i h1;obtain ⟨l,hl⟩:=pz s hp;have hr:gM s=false:=by unfold gM;rw [hl];simp;intro _ h2;omega
  exact ⟨by rw [hr];rfl,dz _ _⟩
 ·go_wp2_with (go_at_call 118;refine (Lo.af8 (l:=oO s) (sW s).symm (VL s _ _ _) (by rw [sW];omega)).mono ?_;rintro e w1 ⟨rfl,rfl⟩)
  go_ret;rename_i g1 g2;obtain ⟨l,hl⟩:=pz s hp
  have hr:gM s=!(oO s).any wR:=by
   unfold gM;rw [h];rw [hl];simp;intro;omega
  exact ⟨by rw [hr];rfl,(dz _ _).drew.alloc (aJ _) _⟩
 ·go_ret;rename_i h1;obtain ⟨l,hl⟩:=pz s hp;have hr:gM s=false:=by unfold gM;rw [hl];simp;intro _ h2;omega
  exact ⟨by rw [hr];rfl,dz _ _⟩
end
end Go.Proofs
