/- Part 8. -/
import Derived.Laws.IdiomStrings
import Derived.Test.YtnemnkmojiljmaaF05
set_option maxRecDepth 100000
set_option maxHeartbeats 8000000
set_option linter.all false
section
namespace Go.Proofs
open Go Go.RowKit
variable [Lo.St]
def D8 (c:Int):Bool:=(decide (c<97)||decide (122<c))&&(decide (c<48)||decide (57<c))&&!(c==45)
theorem Lo.JK (c:Int) (w:World):Calls Lo.prog 94 #[.int .u8 c] w λe w'=>e= .returned (.bool (D8 c))∧w'=w:=by
 have U:=(@Lo.underlying inferInstance);have U2:=(@Lo.runUnderlying inferInstance);unfold D8
 by_cases h1:c<97
 ·have d1:decide (c<97)=true:=by simpa using h1
  by_cases h3:c<48
  ·have d3:decide (c<48)=true:=by simpa using h3
   by_cases h5:c=45
   ·have d5:(c==45)=true:=by simpa using h5
    go_enter Lo.func94,Try.ntmps94;go_wp2;go_ret;exact ⟨by simp [d1,d3,d5];try omega,rfl⟩
   ·have d5:(c==45)=false:=by simpa using h5
    go_enter Lo.func94,Try.ntmps94;go_wp2;go_ret;exact ⟨by simp [d1,d3,d5];try omega,rfl⟩
  ·have d3:decide (c<48)=false:=by simpa using h3
   by_cases h4:57<c
   ·have d4:decide (57<c)=true:=by simpa using h4
    have d5:(c==45)=false:=by simp;omega
    go_enter Lo.func94,Try.ntmps94;go_wp2;go_ret;exact ⟨by simp [d1,d3,d4,d5];try omega,rfl⟩
   ·have d4:decide (57<c)=false:=by simpa using h4
    go_enter Lo.func94,Try.ntmps94;go_wp2;go_ret;exact ⟨by simp [d1,d3,d4],rfl⟩
 ·have d1:decide (c<97)=false:=by simpa using h1
  by_cases h2:122<c
  ·have d2:decide (122<c)=true:=by simpa using h2
   have d3:decide (c<48)=false:=by simp;omega
   have d4:decide (57<c)=true:=by simp;omega
   have d5:(c==45)=false:=by simp;omega
   go_enter Lo.func94,Try.ntmps94;go_wp2;go_ret;exact ⟨by simp [d1,d2,d3,d4,d5];try omega,rfl⟩
  ·have d2:decide (122<c)=false:=by simpa using h2
   go_enter Lo.func94,Try.ntmps94;go_wp2;go_ret;exact ⟨by simp [d1,d2],rfl⟩
abbrev RdB (w:World) (B:Nat) (A:Option Addr) (l:List Int):Prop:=Rd w B 1 A l.length λi _=>.int .u8 ((l[i]?).getD 0)
theorem rdB {w:World} {bb off k:Nat} {l:List Int} (hc:∀i j,i<l.length->j<1->w.cell? ⟨bb,off+(i*1+j),none⟩=some (.int .u8 ((l[i]?).getD 0))) (hlt:k<l.length):w.cell? ⟨bb,off+k,none⟩=some (.int .u8 l[k]):=by
 have :=hc k 0 hlt (by omega);rw [Nat.mul_one,Nat.add_zero] at this;rw [this,ax hlt];rfl
def Iz:List Int->Nat->Int
 | [],_=> -1
 |x::l,k=>if D8 x then (k:Int) else Iz l (k+1)
theorem O8 (l:List Int) (k:Nat) (h:k<l.length):Iz (l.drop k) k=if D8 l[k] then (k:Int) else Iz (l.drop (k+1)) (k+1):=by
 rw [aG h];rfl
theorem Vu (l:List Int) (k:Nat):decide (0<=Iz l k)=l.any D8:=by
 induction l generalizing k with
 |nil=>rfl
 |cons x l ih=>
  unfold Iz
  by_cases h:D8 x=true
  ·rw [if_pos h];simp [h]
  ·rw [if_neg h,ih];simp [h]
theorem Lo.RF {w:World} {B:Nat} {A:Option Addr} {l:List Int} {c:Nat} (h1:RdB w B A l) (hl:l.length<=100000):
 Calls Lo.prog 104 #[.slice A l.length c,.func (.func 94) #[] #[]] w λe w'=>e= .returned (.int .i64 (Iz l 0))∧w'=w:=by
 obtain ⟨U,U2,U3,U4,U5,U6⟩:=@Lo.facts inferInstance;have C:=(@Lo.call94 inferInstance);go_enter Lo.func104,Try.ntmps104;go_wp2
 go_loopw [8] (λi wr=>∃k:Nat,k<=l.length∧i= .int .i64 (k:Int)∧Iz (l.drop k) k=Iz l 0∧wr=w) (λi _=>l.length - (intOf i).toNat)
 case atStart=>exact ⟨0,aL _,rfl,rfl,rfl⟩
 case round=>
  obtain ⟨k,hk,rfl,hx,rfl⟩:=hrel
  by_cases hlt:k<l.length
  ·have hlt':(k:Int)<(l.length:Int):=by omega
   obtain ⟨bb,off,rfl,hbb,hc⟩:=h1 (by omega);have r1:=rdB hc hlt;have hd:=O8 l k hlt;rw [hx] at hd;clear hc h1 hx;generalize l[k]=x at r1 hd;cases hq:D8 x with
   |true=>
    rw [if_pos hq] at hd;have HD:=Lib.hid hd;clear hd
    go_wp2_with (go_at_call 94;refine (Lo.JK _ _).mono ?_;rintro e w1 ⟨rfl,rfl⟩;rw [hq])
    go_ret;exact ⟨by rw [HD.out];rfl,by simp⟩
   |false=>
    rw [if_neg (by rw [hq];simp)] at hd;have HD:=Lib.hid hd;clear hd
    go_wp2_with (go_at_call 94;refine (Lo.JK _ _).mono ?_;rintro e w1 ⟨rfl,rfl⟩;rw [hq])
    go_roundw
    case rel=>exact ⟨k+1,by omega,by go_num,HD.out.symm,by simp⟩
    case measure=>simp [intOf];omega
  ·obtain rfl:k=l.length:=by omega
   have hx':(-1:Int)=Iz l 0:=by rw [<-hx,List.drop_length];rfl
   have HX:=Lib.hid hx';clear hx hx';go_wp2;go_ret;exact ⟨by rw [<-HX.out];rfl,by simp⟩
theorem Lo.RG {w:World} {B:Nat} {A:Option Addr} {l:List Int} {c:Nat} (h1:RdB w B A l) (hl:l.length<=100000):
 Calls Lo.prog 93 #[.slice A l.length c,.func (.func 94) #[] #[]] w λe w'=>e= .returned (.bool (l.any D8))∧w'=w:=by
 have U:=(@Lo.underlying inferInstance);have U2:=(@Lo.runUnderlying inferInstance);have C:=(@Lo.call104 inferInstance);go_enter Lo.func93,Try.ntmps93
 go_wp2_with (go_at_call 104;refine (Lo.RF h1 hl).mono ?_;rintro e w1 ⟨rfl,rfl⟩)
 go_ret;exact ⟨by rw [<-Vu l 0];rfl,by simp⟩
end Go.Proofs
end
section
namespace Go.Proofs
open Go Go.RowKit
variable [Lo.St]
def vU (s:ByteArray):List Int:=s.data.toList.map λb=>(b.toNat:Int)
theorem xC (s:ByteArray) (h:0<s.size):∃l,vU s=((s[0]'h).toNat:Int)::l:=by
 obtain ⟨⟨d⟩⟩:=s;cases d with
 |nil=>exact absurd h (by simp [ByteArray.size])
 |cons x d=>exact ⟨_,rfl⟩
def lG (s:ByteArray):Bool:=qg s.size 1 14&&(match vU s with | []=>false|c::_=>!(decide (c<97))&&!(decide (122<c)))&&!((vU s).any D8)
theorem Lo.O9 (s:ByteArray) (w:World) (h:qg s.size 1 14=false):Calls Lo.prog 79 #[.string s] w λe w'=>e= .returned (.bool false)∧Below w.heap.size w w':=by
 have U:=(@Lo.underlying inferInstance);have U2:=(@Lo.runUnderlying inferInstance);have C:=(@Lo.call28 inferInstance);go_enter Lo.func79,Try.ntmps79
 go_wp2_with (go_at_call 28;refine (Lo.dx _ _ _ _).mono ?_;rintro e w1 ⟨rfl,rfl⟩;rw [h])
 go_ret;exact ⟨rfl,Below.refl _ _⟩
theorem zh (s:ByteArray):(vU s).length=s.size:=by
 unfold vU;rw [List.length_map,Array.length_toList];rfl
theorem RH (s:ByteArray) (w:World) (cap:Nat) (fr:Nat×Nat):RdB (w.drew.alloc (.cells (bytesRow s cap) 5 fr)) (w.heap.size+1) (some ⟨w.heap.size,0,none⟩) (vU s):= λ_=>⟨w.heap.size,0,rfl,Nat.lt_succ_self _, λi j hi hj=>by
 obtain rfl:j=0:=by omega
 have hh:(w.drew.alloc (.cells (bytesRow s cap) 5 fr)).heap[w.heap.size]?=some (.cells (bytesRow s cap) 5 fr):=by
  show (w.heap.push _)[w.heap.size]?=_
  simp
 unfold World.cell?;simp only [hh];show (bytesRow s cap)[0+(i*1+0)]?=_
 rw [show 0+(i*1+0)=i from by omega];have hi2:i<s.data.size:=by rw [zh] at hi;exact hi
 unfold bytesRow;rw [Array.getElem?_append_left (by rw [Array.size_map];exact hi2),Array.getElem?_map];unfold vU;rw [List.getElem?_map,Array.getElem?_toList,aH hi2];rfl⟩
theorem Lo.YC {w:World} {B n:Nat} {A:Option Addr} {l:List Int} {c:Nat} (hn:n=l.length) (h1:RdB w B A l) (hl:l.length<=100000):
 Calls Lo.prog 93 #[.slice A n c,.func (.func 94) #[] #[]] w λe w'=>e= .returned (.bool (l.any D8))∧w'=w:=hn ▸ Lo.RG h1 hl
theorem Lo.LQ (s:ByteArray) (w:World) (h:qg s.size 1 14=true):Calls Lo.prog 79 #[.string s] w λe w'=>e= .returned (.bool (lG s))∧Below w.heap.size w w':=by
 have U:=(@Lo.underlying inferInstance);have U2:=(@Lo.runUnderlying inferInstance);have C:=(@Lo.call28 inferInstance);have hcv:= λw:World=>run_bytes_of_string (P:=Lo.prog) w 9 153 5 s ((Lo.underlying 9).trans (by kernel_rfl)) ((Lo.underlying 153).trans (by kernel_rfl)) ((Lo.underlying 5).trans (by kernel_rfl))
 have C2:=(@Lo.call93 inferInstance);have hp:0<s.size:=by simp [qg] at h;omega
 have hp2:s.size<=14:=by simp [qg] at h;omega
 go_enter Lo.func79,Try.ntmps79
 go_wp2_with (go_at_call 28;refine (Lo.dx _ _ _ _).mono ?_;rintro e w1 ⟨rfl,rfl⟩;rw [h])
 ·go_ret;rename_i h1;obtain ⟨l,hl⟩:=xC s hp;have hr:lG s=false:=by unfold lG;rw [hl];simp;intro _ h2;omega
  exact ⟨by rw [hr];rfl,Below.refl _ _⟩
 ·go_wp2_with (go_at_call 93;refine (Lo.YC (l:=vU s) (zh s).symm (RH s _ _ _) (by rw [zh];omega)).mono ?_;rintro e w1 ⟨rfl,rfl⟩)
  go_ret;rename_i g1 g2;obtain ⟨l,hl⟩:=xC s hp
  have hr:lG s=!(vU s).any D8:=by
   unfold lG;rw [h];rw [hl];simp;intro;omega
  exact ⟨by rw [hr];rfl,(Below.refl _ _).drew.alloc (aj _) _⟩
 ·go_ret;rename_i h1;obtain ⟨l,hl⟩:=xC s hp;have hr:lG s=false:=by unfold lG;rw [hl];simp;intro _ h2;omega
  exact ⟨by rw [hr];rfl,Below.refl _ _⟩
end Go.Proofs
end
