/- Part 2. -/
import Derived.BigQuiet
import Derived.RangeFuncCalls
import Derived.OwnWalkIn
import Derived.TacticsInMore
import Derived.LoopNIn
import Derived.LoopIn
import Derived.WalkMore
import Derived.Test.YtjoahejacacljaaGreatS01
import Derived.Lib.OwnKind
import Derived.Test.YtjoahejacacljaaGreatH28
set_option maxRecDepth 100000
set_option maxHeartbeats 0
set_option linter.all false
section
namespace Go.Proofs
open Go Go.RowKit Go.Maps
def classF(ls:List Int)(s:Int):Nat:=(ls.filter λx=>decide (x<=s)).length
def classF_take{ls:List Int}{s:Int}{k:Nat}(h:k<ls.length):classF (ls.take (k+1)) s=classF (ls.take k) s+(if ls[k]<=s then 1 else 0):=by
 unfold classF;rw[List.take_succ_eq_append_getElem h,List.filter_append,List.length_append]
 by_cases h2:ls[k]<=s<;>simp[List.filter_cons,h2]
def classF_le(ls:List Int)(s:Int):classF ls s<=ls.length:=List.length_filter_le _ _
structure SzOk(ls:List Int)(ps:List (Int×Int)):Prop where
 l3:ls.length<=3
 rg:∀x∈ls,1<=x∧x<=100
 inc:∀i(h:i+1<ls.length),ls[i]<ls[i+1]
 s20:ps.length<=20
 sp:∀x∈ps,0<=x.1∧x.1<=x.2∧x.2<=100
variable [Lo.St]
def Lo.class_any{w:World}{B:Nat}{A:Option Addr}{ls:List Int}{cl:Nat}(hr:xJ w B A ls)(hl:ls.length<=64)(hB:B<=w.heap.size)(s:Int):
 Calls Lo.prog 9 #[.slice A ls.length cl,.int .i64 s] w λe w'=>e=.returned (.int .i64 (classF ls s:Int))∧w'=w:=by
 obtain⟨U,U2,U3,U4,U5,U6⟩:=Lo.facts;have HR:=Lib.hid hr;clear hr;go_enter Lo.get Tryz.func9,Tryz.ntmps9;go_wp2
 go_loopw [5,6] (λn i wr=>∃k:Nat,k<=ls.length∧n=.int .i64 (classF (ls.take k) s:Int)∧i=.int .i64 (k:Int)∧wr=w) (λ_ i _=>ls.length-(intOf i).toNat)
 case atStart=>exact⟨0,Nat.zero_le _,rfl,rfl,rfl⟩
 case round=>
  obtain⟨k,hk,rfl,rfl,rfl⟩:=hrel
  by_cases hlt:k<ls.length
  .have hlt':(k:Int)<(ls.length:Int):=by omega
   obtain⟨b1,o1,rfl,hb1,hc1⟩:=HR.out (by omega);have r1:=PT hc1 hlt;have ht:=classF_take (s:=s) hlt;have hle:=classF_le (ls.take k) s;rw[List.length_take]at hle;clear hc1;generalize ls[k]=x at r1 ht;generalize classF (ls.take k) s=c at ht hle
   by_cases hx:x<=s
   .rw[if_pos hx]at ht;have HT:=Lib.hid ht;clear ht;go_wp2;go_roundw
    case rel=>exact⟨k+1,by omega,by rw[HT.out];go_num,by go_num,trivial⟩
    case measure=>simp[intOf];omega
   .rw[if_neg hx]at ht;have HT:=Lib.hid ht;clear ht;have hx':¬s≥ x:=hx;go_wp2;go_roundw
    case rel=>exact⟨k+1,by omega,by rw[HT.out];rfl,by go_num,trivial⟩
    case measure=>simp[intOf];omega
  .obtain rfl:k=ls.length:=by omega
   rw[List.take_length];go_wp2;go_ret;exact⟨rfl,rfl⟩
def Lo.classOf_any{w:World}{B:Nat}{A:Option Addr}{ls:List Int}{cl:Nat}(hr:xJ w B A ls)(hl:ls.length<=64)(hB:B<=w.heap.size)(s:Int):
 Calls Lo.prog 24 #[.slice A ls.length cl,.int .i64 s] w λe w'=>e=.returned (.int .i64 (classF ls s:Int))∧w'=w:=by
 obtain⟨U,U2,U3,U4,U5,U6⟩:=Lo.facts;have HR:=Lib.hid hr;clear hr;go_enter Lo.get Tryz.func24,Tryz.ntmps24;go_wp2
 go_loopw [5,10] (λn i wr=>∃k:Nat,k<=ls.length∧n=.int .i64 (classF (ls.take k) s:Int)∧i=.int .i64 (k:Int)∧wr=w) (λ_ i _=>ls.length-(intOf i).toNat)
 case atStart=>exact⟨0,Nat.zero_le _,rfl,rfl,rfl⟩
 case round=>
  obtain⟨k,hk,rfl,rfl,rfl⟩:=hrel
  by_cases hlt:k<ls.length
  .have hlt':(k:Int)<(ls.length:Int):=by omega
   obtain⟨b1,o1,rfl,hb1,hc1⟩:=HR.out (by omega);have r1:=PT hc1 hlt;have ht:=classF_take (s:=s) hlt;have hle:=classF_le (ls.take k) s;rw[List.length_take]at hle;clear hc1;generalize ls[k]=x at r1 ht;generalize classF (ls.take k) s=c at ht hle
   by_cases hx:x<=s
   .rw[if_pos hx]at ht;have HT:=Lib.hid ht;clear ht;go_wp2;go_roundw
    case rel=>exact⟨k+1,by omega,by rw[HT.out];go_num,by go_num,trivial⟩
    case measure=>simp[intOf];omega
   .rw[if_neg hx]at ht;have HT:=Lib.hid ht;clear ht;have hx':¬s≥ x:=hx;go_wp2;go_roundw
    case rel=>exact⟨k+1,by omega,by rw[HT.out];rfl,by go_num,trivial⟩
    case measure=>simp[intOf];omega
  .obtain rfl:k=ls.length:=by omega
   rw[List.take_length];go_wp2;go_ret;exact⟨rfl,rfl⟩
end Go.Proofs
end
section
namespace Go.Proofs
open Go Go.RowKit Go.Maps
variable [Lo.St]
attribute [local irreducible] wpQuiet
def Lo.cbetween_ok{n l h:Int}(h1:l<=n)(h2:n<=h)(w:World):Calls Lo.prog 30 #[.int .i64 n,.int .i64 l,.int .i64 h] w λe w'=>e=.returned (.bool true)∧w'=w:=by have U:=Lo.underlying;have U2:=Lo.runUnderlying;go_enter Lo.get Tryz.func30,Tryz.ntmps30;go_wp2;go_ret;exact⟨by simp[h2],rfl⟩
def Lo.cinside_ok{a b l h:Int}(h1:l<=a)(h2:a<=b)(h3:b<=h)(w:World):Calls Lo.prog 54 #[.agg #[.int .i64 a,.int .i64 b],.int .i64 l,.int .i64 h] w λe w'=>e=.returned (.bool true)∧Below w.heap.size w w':=by obtain⟨U,U2,U3,U4,U5,U6⟩:=Lo.facts;go_enter Lo.get Tryz.func54,Tryz.ntmps54;go_wp2;go_ret;exact⟨by simp[h3],(Below.refl _ _).alloc (Nat.le_refl _) _⟩
def Lo.csz_ok{a b:Int}(h:0<=a∧a<=b∧b<=100)(w:World):Calls Lo.prog 53 #[.agg #[.int .i64 a,.int .i64 b]] w λe w'=>e=.returned (.bool false)∧Below w.heap.size w w':=by
 obtain⟨U,U2,U3,U4,U5,U6⟩:=Lo.facts;have C:=Lo.call Tryz.func54;go_enter Lo.get Tryz.func53,Tryz.ntmps53
 go_wp2_with(go_at_call 54;refine(Lo.cinside_ok h.1 h.2.1 h.2.2 _).mono ?_;rintro e w1⟨rfl,hb1⟩)
 go_ret;exact⟨rfl,((Below.refl _ _).alloc (Nat.le_refl _) _).trans (hb1.mono (by simp))⟩
def Lo.idxsz_ok{w:World}{B:Nat}{ps:List (Int×Int)}{A:Option Addr}{cap:Nat}(hr:YM w B A ps)(hlen:ps.length<=64)(hB:B<=w.heap.size)(hp:∀x∈ps,0<=x.1∧x.1<=x.2∧x.2<=100):
 Calls Lo.prog 90 #[.slice A ps.length cap,.func (.func 53) #[] #[]] w λe w'=>e=.returned (.int .i64 (-1))∧Below w.heap.size w w':=by
 obtain⟨U,U2,U3,U4,U5,U6⟩:=Lo.facts;have C:=Lo.call Tryz.func53;have HP:=Lib.hid hp;clear hp;go_enter Lo.get Tryz.func90,Tryz.ntmps90;go_wp2
 go_loopw [8] (λi wr=>∃k:Nat,k<=ps.length∧i=.int .i64 (k:Int)∧Below w.heap.size w wr) (λi _=>ps.length-(intOf i).toNat)
 case atStart=>exact⟨0,Nat.zero_le _,rfl,Below.refl _ _⟩
 case round=>
  obtain⟨k,hk,rfl,hb⟩:=hrel
  by_cases hlt:k<ps.length
  .obtain⟨bb,off,rfl,hbb,hc⟩:=(hr.keep (λb o h=>dH hb b o (by omega))) (by omega);obtain⟨k0,k1⟩:=Si hc hlt;have hx:=HP.out _ (List.getElem_mem hlt);generalize ps[k]=x at hx k0 k1;obtain⟨lo,hi⟩:=x;simp only at hx k0 k1;have hlt':(k:Int)<(ps.length:Int):=by omega
   have HB:=Lib.hid hb;have HX:=Lib.hid hx;clear hb hc hr hx
   go_wp2_with(go_at_call 53;refine(Lo.csz_ok HX.out _).mono ?_;rintro e w1⟨rfl,hb1⟩)
   go_roundw
   case rel=>exact⟨k+1,by omega,by go_num,HB.out.trans (hb1.mono HB.out.size)⟩
   case measure=>simp[intOf];omega
  .obtain rfl:k=ps.length:=by omega
   go_wp2;go_ret;exact⟨rfl,hb⟩
def Lo.contsz_ok{w:World}{B:Nat}{ps:List (Int×Int)}{A:Option Addr}{cap:Nat}(hr:YM w B A ps)(hlen:ps.length<=64)(hB:B<=w.heap.size)(hp:∀x∈ps,0<=x.1∧x.1<=x.2∧x.2<=100):
 Calls Lo.prog 52 #[.slice A ps.length cap,.func (.func 53) #[] #[]] w λe w'=>e=.returned (.bool false)∧Below w.heap.size w w':=by
 obtain⟨U,U2,U3,U4,U5,U6⟩:=Lo.facts;have C:=Lo.call Tryz.func90;go_enter Lo.get Tryz.func52,Tryz.ntmps52
 go_wp2_with(go_at_call 90;refine(Lo.idxsz_ok hr hlen hB hp).mono ?_;rintro e w1⟨rfl,hb1⟩)
 go_ret;exact⟨rfl,hb1⟩
def Lo.checkSizes_ok{w:World}{B:Nat}{ls:List Int}{ps:List (Int×Int)}{A1 A2:Option Addr}{c1 c2:Nat}(h1:xJ w B A1 ls)(h2:YM w B A2 ps)(hB:B<=w.heap.size)(hs:SzOk ls ps):
 Calls Lo.prog 23 #[.slice A1 ls.length c1,.slice A2 ps.length c2] w λe w'=>e=.returned (.int .i64 0)∧Below w.heap.size w w':=by
 obtain⟨U,U2,U3,U4,U5,U6⟩:=Lo.facts;have C:=Lo.call Tryz.func30;have C2:=Lo.call Tryz.func52;have hl3:=hs.l3;have hl20:=hs.s20;have H:=Lib.hid (And.intro hs (And.intro h1 h2));clear hs h1 h2;have d3:¬((ls.length:Int)> 3):=by omega
 have d20:¬((ps.length:Int)> 20):=by omega
 go_enter Lo.get Tryz.func23,Tryz.ntmps23;go_wp2
 go_loopw [5,6,12] (λa b i wr=>∃k:Nat,k<=ls.length∧i=.int .i64 (k:Int)∧Below w.heap.size w wr) (λ_ _ i _=>ls.length-(intOf i).toNat)
 case atStart=>exact⟨0,Nat.zero_le _,rfl,Below.refl _ _⟩
 case round=>
  obtain⟨k,hk,rfl,hbw⟩:=hrel;have HW:=Lib.hid hbw;clear hbw
  by_cases hlt:k<ls.length
  .have hlt':(k:Int)<(ls.length:Int):=by omega
   obtain⟨b1,o1,rfl,hb1,hc1⟩:=(H.out.2.1.keep λd o h=>dH HW.out d o (by omega)) (by omega);have r1:=PT hc1 hlt;have hrg:=H.out.1.rg _ (List.getElem_mem hlt);rcases k with _|j
   .clear hc1;rw[Nat.add_zero]at r1;generalize ls[0]=x at r1 hrg
    go_wp2_with(go_at_call 30;refine(Lo.cbetween_ok hrg.1 hrg.2 _).mono ?_;rintro e w1⟨rfl,rfl⟩)
    go_roundw
    case rel=>exact⟨1,by omega,by go_num,HW.out⟩
    case measure=>simp[intOf];omega
   .have r0:=PT hc1 (show j<ls.length by omega);have hinc:=H.out.1.inc j hlt;clear hc1;have hw1:IntKind.i64.wrap (((j+1:Nat):Int)-1)=(j:Int):=by rw[IntKind.wrap_i64];omega
    have hjp:((j+1:Nat):Int)> 0:=by omega
    generalize ls[j+1]=x at r1 hrg hinc;generalize ls[j]=y at r0 hinc;have hle:¬x<=y:=by omega
    go_wp2_with(go_at_call 30;refine(Lo.cbetween_ok hrg.1 hrg.2 _).mono ?_;rintro e w1⟨rfl,rfl⟩)
    go_roundw
    case rel=>exact⟨j+1+1,by omega,by go_num,HW.out⟩
    case measure=>simp[intOf];omega
  .obtain rfl:k=ls.length:=by omega
   go_wp2_with(go_at_call 52;refine(Lo.contsz_ok (H.out.2.2.keep λd o h=>dH HW.out d o (by omega)) (by omega) (by have :=HW.out.size;omega) H.out.1.sp).mono ?_;rintro e w1⟨rfl,hb1⟩)
   go_ret;exact⟨rfl,HW.out.trans (hb1.mono HW.out.size)⟩
end Go.Proofs
end
section
namespace Go.Proofs
open Go Go.RowKit Go.Maps
def LS(l:List Int):Obj:=.cells (l.map λx=>Value.int .i64 x).toArray 33
def ls_cell{W:World}{b:Nat}{l:List Int}(h:W.heap[b]?=some (LS l)){k:Nat}(hk:k<l.length):W.cell? ⟨b,k,none⟩=some (.int .i64 l[k]):=by unfold World.cell?;simp only[h,LS];simp[hk]
def ls_frozen{W:World}{b:Nat}{l:List Int}(h:W.heap[b]?=some (LS l))(k:Nat):W.frozen? ⟨b,k,none⟩=false:=by unfold World.frozen?;simp only[h,LS];simp
def ls_set{W:World}{b:Nat}{l:List Int}(h:W.heap[b]?=some (LS l))(k:Nat)(x:Int):(W.setCell ⟨b,k,none⟩ (.int .i64 x)).heap[b]?=some (LS (l.set k x)):=by unfold World.setCell;simp only[Array.getElem?_modify,h,if_true,Option.map_some,LS];simp[List.map_set]
def tabF(n:Nat)(f g:Nat->Int):List Int:=(List.range (n*2)).map λj=>if j%2=0 then f (j/ 2)else g (j/ 2)
section
variable {n c:Nat} {f g:Nat->Int}
def tabF_len:(tabF n f g).length=n*2:=by simp[tabF]
def tabF_0(h:c<n):(tabF n f g)[c*2]'(by rw[tabF_len];omega)=f c:=by simp[tabF]
def tabF_1(h:c<n):(tabF n f g)[c*2+1]'(by rw[tabF_len];omega)=g c:=by simp only[tabF,List.getElem_map,List.getElem_range];rw[if_neg (by omega),show(c*2+1)/ 2=c by omega]
def tabF_set0(v:Int):(tabF n f g).set (c*2) v=tabF n (λd=>if d=c then v else f d) g:=by
 apply List.ext_getElem
 .simp[tabF]
 .intro i h1 h2;rw[List.getElem_set];simp only[tabF,List.getElem_map,List.getElem_range]
  by_cases e:c*2=i
  .rw[if_pos e,if_pos (by omega),if_pos (by omega)]
  .rw[if_neg e]
   by_cases z:i%2=0
   .rw[if_pos z,if_pos z,if_neg (by omega)]
   .rw[if_neg z,if_neg z]
def tabF_set1(v:Int):(tabF n f g).set (c*2+1) v=tabF n f (λd=>if d=c then v else g d):=by
 apply List.ext_getElem
 .simp[tabF]
 .intro i h1 h2;rw[List.getElem_set];simp only[tabF,List.getElem_map,List.getElem_range]
  by_cases e:c*2+1=i
  .rw[if_pos e,if_neg (by omega),if_pos (by omega)]
  .rw[if_neg e]
   by_cases z:i%2=0
   .rw[if_pos z,if_pos z]
   .rw[if_neg z,if_neg z,if_neg (by omega)]
def tabF_zero:tabF n (λ_=>0) (λ_=>0)=List.replicate (n*2) 0:=by apply List.ext_getElem<;>simp[tabF]
end
def cntS(p:Int×Int->Bool)(ps:List (Int×Int)):Int:=(ps.countP p:Nat)
def cntS_take{p:Int×Int->Bool}{ps:List (Int×Int)}{k:Nat}(h:k<ps.length):cntS p (ps.take (k+1))=cntS p (ps.take k)+(if p ps[k]=true then 1 else 0):=by
 unfold cntS;rw[List.take_succ_eq_append_getElem h,List.countP_append]
 by_cases h2:p ps[k]=true<;>simp[List.countP_cons,h2]
def cntS_le(p:Int×Int->Bool)(ps:List (Int×Int)):0<=cntS p ps∧cntS p ps<=ps.length:=⟨by unfold cntS;omega,by unfold cntS;exact_mod_cast List.countP_le_length⟩
def inC(ls:List Int)(c:Nat)(p:Int×Int):Bool:=decide (classF ls p.1=c)&&decide (classF ls p.2=c)
def mayC(ls:List Int)(c:Nat)(p:Int×Int):Bool:=decide (classF ls p.1<=c)&&decide (c<=classF ls p.2)
def sortF(ls:List Int)(ps:List (Int×Int)):List (Int×Int):=(List.range (ls.length+1)).map λc=>(cntS (inC ls c) ps,cntS (mayC ls c) ps)
def sortF_len{ls:List Int}{ps:List (Int×Int)}:(sortF ls ps).length=ls.length+1:=by simp[sortF]
def classF_mono(ls:List Int){s t:Int}(h:s<=t):classF ls s<=classF ls t:=by unfold classF;rw[<-List.countP_eq_length_filter, <-List.countP_eq_length_filter];exact List.countP_mono_left λx _ hx=>by simp at hx⊢;omega
variable [Lo.St]
attribute [local irreducible] wpQuiet
def Lo.und29:Lo.prog.underlying 23=some (.slice 33):=(Lo.underlying 23).trans (by kernel_rfl)
def Lo.run_makeS(n:Nat)(hn:n<=64)(W:World):(Instr.makeSlice 23 (.int .i64 (n:Int)) (.int .i64 (n:Int))).run Lo.prog W=.ok (.slice (some ⟨W.heap.size,0,none⟩) n n) (W.alloc (LS (tabF n (λ_=>0) (λ_=>0)))):=by
 obtain⟨i0,hi,hz0,hz1,hz2⟩:=info_parts Lo.Rx;rw[Go.run_make W 23 33 i0 (.agg #[.int .i64 0,.int .i64 0]) Lo.und29 hi hz0 .i64 .i64 n n (by omega) (Int.le_refl _) (by rw[hz2];omega) (by omega),tabF_zero];refine congrArg (λo=>Result.ok (Value.slice (some ⟨W.heap.size,0,none⟩) n n) (W.alloc o)) ?_
 unfold LS;refine congrArg (λc=>Obj.cells c 33) ?_
 rw[hz1];apply Array.ext_getElem?;intro j;simp[madeCells,Value.cells]
 by_cases h:j<n*2
 .simp[h];rcases(by omega:j%2=0∨j%2=1)with e|e<;>simp[e]
 .simp[h]
def rdQ_of{w:World}{b B n:Nat}{f g:Nat->Int}(h:w.heap[b]?=some (LS (tabF n f g)))(hB:b<B):YM w B (some ⟨b,0,none⟩) ((List.range n).map λc=>(f c,g c)):= λhn=>by
 rw[List.length_map,List.length_range]at hn⊢;refine⟨b,0,rfl,hB, λi j hi hj=>?_⟩;rw[Nat.zero_add];rcases(by omega:j=0∨j=1)with rfl|rfl
 .rw[Nat.add_zero,ls_cell h (k:=i*2) (by rw[tabF_len];omega),tabF_0 hi];simp[Sg,hi]
 .rw[ls_cell h (k:=i*2+1) (by rw[tabF_len];omega),tabF_1 hi];simp[Sg,hi]
end Go.Proofs
end
section
namespace Go.Proofs
open Go Go.RowKit Go.Maps
variable [Lo.St]
attribute [local irreducible] wpQuiet
def LimTo(ls:List Int)(k:Nat):Prop:=(∀i(h:i<ls.length),i<k->1<=ls[i]∧ls[i]<=100)∧∀i(h:i+1<ls.length),i+1<k->ls[i]<ls[i+1]
def LimTo.succ{ls:List Int}{k:Nat}(h:LimTo ls k)(hk:k<ls.length)(h1:1<=ls[k]∧ls[k]<=100)(h2:∀j(e:j+1=k),ls[j]<ls[k]):LimTo ls (k+1):=
 ⟨λi hi h3=>by
   by_cases e:i=k
   .subst e;exact h1
   .exact h.1 i hi (by omega), λi hi h3=>by
   by_cases e:i+1=k
   .subst e;exact h2 i rfl
   .exact h.2 i hi (by omega)⟩
def Lo.rcheckSizes_any{w:World}{B:Nat}{ls:List Int}{ps:List (Int×Int)}{A1 A2:Option Addr}{c1 c2:Nat}(h1:xJ w B A1 ls)(h2:YM w B A2 ps)(hB:B<=w.heap.size)(hl:ls.length<=40)(hp:ps.length<=40):
 Calls Lo.prog 4 #[.slice A1 ls.length c1,.slice A2 ps.length c2] w λe w'=>∃z:Int,e=.returned (.int .i64 z)∧(z=0->SzOk ls ps)∧Below w.heap.size w w':=by
 obtain⟨U,U2,U3,U4,U5,U6⟩:=Lo.facts;have C:=Lo.call Tryz.func13;have C2:=Lo.call Tryz.func14;have H:=Lib.hid (And.intro h1 h2);clear h1 h2
 by_cases l3:(ls.length:Int)> 3
 .go_enter Lo.get Tryz.func4,Tryz.ntmps4;go_wp2;go_ret;exact⟨2,rfl,by omega,Below.refl _ _⟩
 go_enter Lo.get Tryz.func4,Tryz.ntmps4;go_wp2
 go_loopw [5] (λi wr=>∃k:Nat,k<=ls.length∧i=.int .i64 (k:Int)∧LimTo ls k∧Below w.heap.size w wr) (λi _=>ls.length-(intOf i).toNat)
 case atStart=>exact⟨0,Nat.zero_le _,rfl,⟨λi _ h=>by omega, λi _ h=>by omega⟩,Below.refl _ _⟩
 case round=>
  obtain⟨k,hk,rfl,hL,hbw⟩:=hrel;have HW:=Lib.hid hbw;have HL:=Lib.hid hL;clear hbw hL
  by_cases hlt:k<ls.length
  .have hlt':(k:Int)<(ls.length:Int):=by omega
   obtain⟨b1,o1,rfl,hb1,hc1⟩:=(H.out.1.keep λd o h=>dH HW.out d o (by omega)) (by omega);have r1:=PT hc1 hlt
   by_cases hx:kH ls[k] 1 100=true
   .have hrg:1<=ls[k]∧ls[k]<=100:=by simpa[kH]using hx
    rcases k with _|j
    .clear hc1;have HS:=Lib.hid (HL.out.succ hlt hrg λj e=>by omega);rw[Nat.add_zero]at r1;generalize ls[0]=x at r1 hx
     go_wp2_with(go_at_call 13;refine(Lo.vF _ _ _ _).mono ?_;rintro e w1⟨rfl,rfl⟩;rw[hx])
     go_quiet(fail)
     go_wp2;go_roundw
     case rel=>exact⟨1,by omega,by go_num,HS.out,below_drewN HW.out _⟩
     case measure=>simp[intOf];omega
    .have r0:=PT hc1 (show j<ls.length by omega);have hw1:IntKind.i64.wrap (((j+1:Nat):Int)-1)=(j:Int):=by rw[IntKind.wrap_i64];omega
     have hjp:((j+1:Nat):Int)> 0:=by omega
     by_cases hle:ls[j+1]<=ls[j]
     .clear hc1 hrg;generalize ls[j+1]=x at r1 hx hle;generalize ls[j]=y at r0 hle
      go_wp2_with(go_at_call 13;refine(Lo.vF _ _ _ _).mono ?_;rintro e w1⟨rfl,rfl⟩;rw[hx])
      go_quiet(fail)
      go_wp2;go_ret;exact⟨7,rfl,by omega,below_drewN HW.out _⟩
     .have HS:=Lib.hid (HL.out.succ hlt hrg λi e=>by
       obtain rfl:i=j:=by omega
       omega)
      clear hc1 hrg;generalize ls[j+1]=x at r1 hx hle;generalize ls[j]=y at r0 hle
      go_wp2_with(go_at_call 13;refine(Lo.vF _ _ _ _).mono ?_;rintro e w1⟨rfl,rfl⟩;rw[hx])
      go_quiet(fail)
      go_wp2;go_roundw
      case rel=>exact⟨j+1+1,by omega,by go_num,HS.out,below_drewN HW.out _⟩
      case measure=>simp[intOf];omega
   .have hx':kH ls[k] 1 100=false:=by simpa using hx
    clear hc1 hx;generalize ls[k]=x at r1 hx'
    go_wp2_with(go_at_call 13;refine(Lo.vF _ _ _ _).mono ?_;rintro e w1⟨rfl,rfl⟩;rw[hx'])
    go_ret;exact⟨1,rfl,by omega,HW.out⟩
  .obtain rfl:k=ls.length:=by omega
   by_cases l20:(ps.length:Int)> 20
   .go_wp2;go_ret;exact⟨2,rfl,by omega,HW.out⟩
   go_wp2
   go_loopw [6] (λi wr2=>∃k:Nat,k<=ps.length∧i=.int .i64 (k:Int)∧(∀i(h:i<ps.length),i<k->0<=ps[i].1∧ps[i].1<=ps[i].2∧ps[i].2<=100)∧Below w.heap.size w wr2) (λi _=>ps.length-(intOf i).toNat)
   case atStart=>exact⟨0,Nat.zero_le _,rfl, λi _ h=>by omega,HW.out⟩
   case round=>
    obtain⟨k,hk,rfl,hP,hbw⟩:=hrel;have HV:=Lib.hid hbw;have HP:=Lib.hid hP;clear hbw hP
    by_cases hlt:k<ps.length
    .have hlt':(k:Int)<(ps.length:Int):=by omega
     obtain⟨b1,o1,rfl,hb1,hc1⟩:=(H.out.2.keep λd o h=>dH HV.out d o (by omega)) (by omega);obtain⟨k0,k1⟩:=Si hc1 hlt;cases hx:eT ps[k].1 ps[k].2 0 100 with
     |true=>
      have HS:=Lib.hid (show∀i(h:i<ps.length),i<k+1->0<=ps[i].1∧ps[i].1<=ps[i].2∧ps[i].2<=100 fromλi h3 h4=>by
       by_cases e:i=k
       .subst e;have :=hx;simp only[eT,Bool.and_eq_true,decide_eq_true_eq]at this;exact⟨this.1.1,this.1.2,this.2⟩
       .exact HP.out i h3 (by omega))
      clear hc1;generalize ps[k].1=x at k0 hx;generalize ps[k].2=y at k1 hx
      go_wp2_with(go_at_call 14;refine(Lo.GD _ _ _ _ _).mono ?_;rintro e w1⟨rfl,hb2⟩;rw[hx])
      go_roundw
      case rel=>exact⟨k+1,by omega,by go_num,HS.out,HV.out.trans (hb2.mono HV.out.size)⟩
      case measure=>simp[intOf];omega
     |false=>
      clear hc1;generalize ps[k].1=x at k0 hx;generalize ps[k].2=y at k1 hx
      go_wp2_with(go_at_call 14;refine(Lo.GD _ _ _ _ _).mono ?_;rintro e w1⟨rfl,hb2⟩;rw[hx])
      go_ret;exact⟨1,rfl,by omega,HV.out.trans (hb2.mono HV.out.size)⟩
    .obtain rfl:k=ps.length:=by omega
     have HS:=Lib.hid (show SzOk ls ps from⟨by omega, λx hx=>by
      obtain⟨i,hi,rfl⟩:=List.mem_iff_getElem.1 hx;exact HL.out.1 i hi hi, λi hi=>HL.out.2 i hi hi,by omega, λx hx=>by
      obtain⟨i,hi,rfl⟩:=List.mem_iff_getElem.1 hx;exact HP.out i hi hi⟩)
     go_wp2;go_ret;exact⟨0,rfl, λ_=>HS.out,HV.out⟩
end Go.Proofs
end
section
namespace Go.Proofs
open Go Go.RowKit Go.Maps
variable [Lo.St]
attribute [local irreducible] wpQuiet
def Lo.sorted_ok{w:World}{B:Nat}{ls:List Int}{ps:List (Int×Int)}{A1 A2:Option Addr}{c1 c2:Nat}(h1:xJ w B A1 ls)(h2:YM w B A2 ps)(hB:B<=w.heap.size)(hs:SzOk ls ps):
 Calls Lo.prog 6 #[.slice A1 ls.length c1,.slice A2 ps.length c2] w λe w'=>Below w.heap.size w w'∧∃A cap,e=.returned (.tuple #[.slice A (ls.length+1) cap,.int .i64 0])∧YM w' w'.heap.size A (sortF ls ps):=by
 obtain⟨U,U2,U3,U4,U5,U6⟩:=Lo.facts;have C:=Lo.call Tryz.func23;have C2:=Lo.call Tryz.func24;have hl3:=hs.l3;have hl20:=hs.s20;have M:=Lo.run_makeS (ls.length+1) (by omega);have e1:((ls.length+1:Nat):Int)=(ls.length:Int)+1:=by omega
 rw[e1]at M;have H:=Lib.hid (And.intro hs (And.intro h1 h2));clear hs h1 h2 e1;have iw:IntKind.i64.wrap ((ls.length:Int)+1)=(ls.length:Int)+1:=by rw[IntKind.wrap_i64];omega
 go_enter Lo.get Tryz.func6,Tryz.ntmps6
 go_wp2_with(go_at_call 23;refine(Lo.checkSizes_ok H.out.2.1 H.out.2.2 hB H.out.1).mono ?_;rintro e w1⟨rfl,hb1⟩)
 have HB:=Lib.hid hb1;have CT:=hb1.size;clear hb1 M
 go_loopw [25] (λi wr=>∃k:Nat,k<=ps.length∧i=.int .i64 (k:Int)∧wr.heap[w1.heap.size]?=some (LS (tabF (ls.length+1) (λc=>cntS (inC ls c) (ps.take k)) (λc=>cntS (mayC ls c) (ps.take k))))∧Below w1.heap.size w1 wr∧w1.heap.size<wr.heap.size) (λi _=>ps.length-(intOf i).toNat)
 case atStart=>exact⟨0,Nat.zero_le _,rfl,World.alloc_heap_new _ _,(Below.refl _ _).alloc (Nat.le_refl _) _,by simp⟩
 case round=>
  obtain⟨k,hk,rfl,ho,hbw,hsz⟩:=hrel;have HW:=Lib.hid hbw;clear hbw;have hBw:∀d o,d<B->wr.cell? ⟨d,o,none⟩=w.cell? ⟨d,o,none⟩:= λd o h=>(dH HW.out d o (by omega)).trans (dH HB.out d o (by omega))
  by_cases hlt:k<ps.length
  .have hlt':(k:Int)<(ps.length:Int):=by omega
   obtain⟨b1,o1,rfl,hb1,hc1⟩:=(H.out.2.2.keep hBw) (by omega);obtain⟨k0,k1⟩:=Si hc1 hlt;have hrg:=H.out.1.sp _ (List.getElem_mem hlt);have hR:xJ wr B A1 ls:=H.out.2.1.keep hBw;have t0:∀c,cntS (inC ls c) (ps.take (k+1))=cntS (inC ls c) (ps.take k)+(if inC ls c ps[k]=true then 1 else 0):= λc=>cntS_take hlt
   have t1:∀c,cntS (mayC ls c) (ps.take (k+1))=cntS (mayC ls c) (ps.take k)+(if mayC ls c ps[k]=true then 1 else 0):= λc=>cntS_take hlt
   have bd0:∀c,0<=cntS (inC ls c) (ps.take k)∧cntS (inC ls c) (ps.take k)<=20:= λc=>by have :=cntS_le (inC ls c) (ps.take k);rw[List.length_take]at this;omega
   have PU:∀c,0<=cntS (mayC ls c) (ps.take k)∧cntS (mayC ls c) (ps.take k)<=20:= λc=>by have :=cntS_le (mayC ls c) (ps.take k);rw[List.length_take]at this;omega
   have HR:=Lib.hid hR;clear hc1 hBw hR;generalize ps[k]=x at k0 k1 hrg t0 t1;obtain⟨lo,hi⟩:=x;simp only at k0 k1 hrg;obtain⟨a,hca⟩:∃a,classF ls lo=a:=⟨_,rfl⟩;obtain⟨b,hcb⟩:∃b,classF ls hi=b:=⟨_,rfl⟩;have ha:=classF_le ls lo;have hb:=classF_le ls hi;have hm:=classF_mono ls hrg.2.1;rw[hca]at ha hm;rw[hcb]at hb hm;replace t0:∀c,cntS (inC ls c) (ps.take (k+1))=cntS (inC ls c) (ps.take k)+(if a=c∧b=c then 1 else 0):= λc=>by rw[t0 c];simp[inC,hca,hcb]
   replace t1:∀c,cntS (mayC ls c) (ps.take (k+1))=cntS (mayC ls c) (ps.take k)+(if a<=c∧c<=b then 1 else 0):= λc=>by rw[t1 c];simp[mayC,hca,hcb]
   have HC:=Lib.hid (And.intro hca hcb);generalize hf:(λc=>cntS (inC ls c) (ps.take k))=f at ho;generalize hg:(λc=>cntS (mayC ls c) (ps.take k))=g at ho;have HT:RowKit.Hid (tabF (ls.length+1) (λc=>cntS (inC ls c) (ps.take (k+1))) (λc=>cntS (mayC ls c) (ps.take (k+1)))=tabF (ls.length+1) (λc=>f c+if a=c∧b=c then 1 else 0) (λc=>g c+if a<=c∧c<=b then 1 else 0)):=Lib.hid (by rw[<-hf, <-hg];congr 1<;>(funext c;first|exact t0 c|exact t1 c));have bf:∀c,0<=f c∧f c<=20:= λc=>by rw[<-hf];exact bd0 c
   have γa:∀c,0<=g c∧g c<=20:= λc=>by rw[<-hg];exact PU c
   have HG:=Lib.hid γa;clear hca hcb t0 t1 bd0 PU hf hg γa;go_wp2;obtain⟨X,hX⟩:∃X,(wr.alloc (.cells #[.int .i64 lo,.int .i64 hi] 33))=X:=⟨_,rfl⟩;have x0:X.heap[wr.heap.size]?=some (.cells #[.int .i64 lo,.int .i64 hi] 33):=hX ▸ World.alloc_heap_new _ _
   have bx:Below wr.heap.size wr X:=hX ▸ (Below.refl _ _).alloc (Nat.le_refl _) _;have sx:X.heap.size=wr.heap.size+1:=by rw[<-hX];simp
   rw[hX];clear hX;have y0:=cell_of x0 0;have y1:=cell_of x0 1;have HX:=Lib.hid (And.intro bx ((bx.block _ hsz).trans ho));clear bx ho x0;have HR2:=Lib.hid (show∀n,xJ (X.drewN n) B A1 ls fromλn=>HR.out.keep λd o h=>dH HX.out.1 d o (by omega))
   go_quiet((go_at_call 24;refine Calls.quiet_of_same (Lo.classOf_any (HR2.out _) (by omega) (by show B<=X.heap.size;omega) _)))
   rw[HC.out.1,HC.out.2];obtain⟨Y,hY⟩:∃Y,X.drewN nq=Y:=⟨_,rfl⟩;have bY:Below wr.heap.size wr Y:=hY ▸ below_drewN HX.out.1 _;have hY0:Y.heap[w1.heap.size]?=some (LS (tabF (ls.length+1) f g)):=hY ▸ HX.out.2
   rw[hY];have sY:Y.heap.size=wr.heap.size+1:=by rw[<-hY];exact sx
   clear hY y0 y1 sx HX HC HR2;have bw1:Below w1.heap.size w1 Y:=HW.out.trans (bY.mono (by omega));obtain⟨m,hmb⟩:∃m,m=b+1:=⟨_,rfl⟩
   have YD:=Lib.hid (show∀Z:World,Z.heap[w1.heap.size]?=some (LS (tabF (ls.length+1) (λc=>f c+if a=c∧b=c then 1 else 0) (λc=>g c+if a<=c∧c<m then 1 else 0)))->Z.heap[w1.heap.size]?=some (LS (tabF (ls.length+1) (λc=>cntS (inC ls c) (ps.take (k+1))) (λc=>cntS (mayC ls c) (ps.take (k+1)))))fromλZ h=>by rw[HT.out,h,hmb];simp only[Nat.lt_succ_iff])
   clear HT;obtain⟨f1,hf1⟩:∃f1,(λc=>f c+if a=c∧b=c then 1 else 0)=f1:=⟨_,rfl⟩;rw[hf1]at YD
   by_cases hab:a=b
   subst hab;have c0:=ls_cell hY0 (k:=a*2) (by rw[tabF_len];omega);rw[tabF_0 (by omega)]at c0;have fz:=ls_frozen hY0;have ba:=bf a;have HY:=Lib.hid (And.intro hY0 bw1)
   have hfe:(λd=>if d=a then f a+1 else f d)=f1:=by
    rw[<-hf1];funext d
    by_cases e:d=a
    .subst e;simp
    .rw[if_neg e,if_neg (by omega),Int.add_zero]
   have HF:=Lib.hid hfe;clear hY0 bY bw1 hf1 hfe bf;obtain⟨fa,hfa⟩:∃fa,f a=fa:=⟨_,rfl⟩;rw[hfa]at c0 ba;go_wp2;obtain⟨Z,hZ⟩:∃Z,Y.setCell ⟨w1.heap.size,a*2,none⟩ (.int .i64 (fa+1))=Z:=⟨_,rfl⟩;rw[hZ];have z0:Z.heap[w1.heap.size]?=some (LS (tabF (ls.length+1) f1 g)):=by rw[<-hZ,ls_set HY.out.1,tabF_set0, <-HF.out,hfa]
   have z1:Below w1.heap.size w1 Z:=hZ ▸ HY.out.2.setCell (Nat.le_refl _) _;have z2:w1.heap.size<Z.heap.size:=by rw[<-hZ];simp[World.setCell];omega
   clear hZ HF fz c0 hfa ba HY sY
   rotate_left
   have hab':¬((a:Int)=(b:Int)):=by omega
   have z0:Y.heap[w1.heap.size]?=some (LS (tabF (ls.length+1) f1 g)):=by rw[hY0, <-hf1];congr 4;funext d;rw[if_neg (by omega),Int.add_zero]
   have z2:w1.heap.size<Y.heap.size:=by omega
   have HY:=Lib.hid (And.intro z0 bw1);clear hY0 bY bw1 hf1 bf z0 sY;go_wp2;have z0:=HY.out.1;have z1:=HY.out.2;clear HY
   all_goals
    go_loopw [12] (λκO wq=>∃c:Nat,a<=c∧c<=m∧κO=.int .i64 (c:Int)∧wq.heap[w1.heap.size]?=some (LS (tabF (ls.length+1) f1 (λd=>g d+if a<=d∧d<c then 1 else 0)))∧Below w1.heap.size w1 wq∧w1.heap.size<wq.heap.size) (λκO _=>m-(intOf κO).toNat)
    case atStart=>
     refine⟨a,Nat.le_refl _,by omega,rfl,?_,z1,z2⟩;rw[z0];congr 4;funext d;rw[if_neg (by omega),Int.add_zero]
    case round=>
     obtain⟨c,hac,hcm,rfl,q0,q1,q2⟩:=hrel
     by_cases hlc:c<m
     .have c0:=ls_cell q0 (k:=c*2+1) (by rw[tabF_len];omega);rw[tabF_1 (by omega),if_neg (by omega),Int.add_zero]at c0;have fz:=ls_frozen q0;have γa:=HG.out c;have HQ:=Lib.hid (And.intro q0 q1);clear q0 q1 z0 z1 z2;obtain⟨gc,hgc⟩:∃gc,g c=gc:=⟨_,rfl⟩;rw[hgc]at c0 γa;go_wp2;go_roundw
      case rel=>
       refine⟨c+1,by omega,by omega,by go_num,?_,HQ.out.2.setCell (Nat.le_refl _) _,by simp[World.setCell];omega⟩;rw[ls_set HQ.out.1,tabF_set1];congr 4;funext d
       by_cases e:d=c
       .subst e;rw[if_pos rfl,if_pos ⟨hac,by omega⟩,hgc]
       .rw[if_neg e]
        by_cases e2:a<=d∧d<c
        .rw[if_pos e2,if_pos ⟨e2.1,by omega⟩]
        .rw[if_neg e2,if_neg (by omega)]
      case measure=>simp[intOf];omega
     .obtain rfl:c=m:=by omega
      have HQ:=Lib.hid (And.intro (YD.out _ q0) (And.intro q1 q2));clear q0 q1 q2 z0 z1 z2;go_wp2;go_roundw
      case rel=>exact⟨k+1,by omega,by go_num,HQ.out.1,HQ.out.2.1,HQ.out.2.2⟩
      case measure=>simp[intOf];omega
  .obtain rfl:k=ps.length:=by omega
   rw[List.take_length]at ho;go_wp2
   go_ret2
   exact⟨HB.out.trans (HW.out.mono CT),_,_,rfl,rdQ_of ho hsz⟩
end Go.Proofs
end
section
namespace Go.Proofs
open Go Go.RowKit
def Seq2(F:Fence)(n:Nat)(P:Program)(g:Nat)(lb:Array Value)(N:Nat)(Kp:Nat->Prop)(w:World):Prop:=
 ∀(l:Nat)(J:World->Prop)(W:World),Below w.heap.size w W->
  (∀(a b:Nat)W1,a<=b->b<N->J W1->YieldAt F (n-1) P l #[.int .i64 (a:Int),.int .i64 (b:Int)] W1 λe W'=>e=.returned (.bool true)∧J W'∧∀k,Kp k->W'.heap[k]?=W1.heap[k]?)->
  J W->
  CallsIn F n P g (#[.func (.yield l) #[] #[]]++lb) W λe W'=>(∃v,e=.returned v)∧J W'
variable {F:Fence} {n:Nat} {P:Program}
def wpIn_rangeFunc_seq2{g:Operand}{ps:Array Tmp}{assign body:Code}{Q:Exit->Act->World->Prop}{a:Act}{w:World}
 (hro:F.round=none) (h1:1<=n) {gf:Nat} {lb:Array Value} (hg:a.eval g=.func (.func gf) #[] lb) (hFg:F.fn gf) (eg:∀args w,(callFunc gf args).run P w=.ok (.enter gf args) w)
 {N:Nat} {Kp:Nat->Prop} {w0:World} (hseq:Seq2 F (n-1) P gf lb N Kp w0) (hb0:Below w0.heap.size w0 w) (hps:ps.size=2) (hKp:∀k,Kp k->k<w.heap.size)
 (I:World->Prop) (hI:∀A B,I A->Off w.heap.size (w.heap.size+1) A B->I B) (h0:I w) (qaf:Nat->Nat->Act)
 (hassign:∀(l p q:Nat)(W:World)(K:Act->World->Prop),K (qaf p q) W->
   assign.wpIn (F.inRound l) (n-1-1) P (Exit.then K (λ_ _ _=>False)) { tmps:=(ps.zip #[.int .i64 (p:Int),.int .i64 (q:Int)]).foldl (λt (p,v)=>t.setIfInBounds p v) a.tmps,defers:=[] } W)
 (hbody:∀(l p q:Nat)(W:World),p<=q->q<N->w.heap.size+1<W.heap.size->I W->
   body.wpIn (F.inRound l) (n-1-1) P (λe _ W'=>e=.normal∧(W.heap.size<=W'.heap.size∧∀k,(w.heap.size<=k∧k<=w.heap.size+1)∨Kp k->W'.heap[k]?=W.heap[k]?)∧I W') (qaf p q) W)
 (hdone:∀(W:World),I W->W.heap[w.heap.size]?=some (.deferred (some []))->Q .normal { a with defers:={ target:=.collected w.heap.size,args:= #[] }::a.defers } W):
 (Code.rangeFunc g ps assign body).wpIn F n P Q a w:=by
 refine wpIn_rangeFunc λfn hfn=>?_
 rw[hro];obtain⟨rec,hrec⟩:∃rec:LoopState->Option Code->Loop,rec= λst pe=>{ state:=st,pending:=pe,fn,tmps:=a.tmps,params:=ps,assign,body,defers:=w.heap.size }:=⟨_,rfl⟩
 obtain⟨W1,hW1⟩:∃W1,(w.alloc (.deferred (some []))).alloc (.loop (rec .ready none))=W1:=⟨_,rfl⟩;have hs1:W1.heap.size=w.heap.size+2:=by rw[<-hW1];simp
 have hL1:W1.heap[w.heap.size+1]?=some (.loop (rec .ready none)):=by rw[<-hW1];have :=World.alloc_heap_new (w.alloc (.deferred (some []))) (.loop (rec .ready none));rwa [World.size_alloc]at this
 have hK1:W1.heap[w.heap.size]?=some (.deferred (some [])):=by rw[<-hW1];exact(Below.heap_alloc _ _ _ (by simp)).trans (World.alloc_heap_new w _)
 have hI1:I W1:=by rw[<-hW1];exact hI _ _ h0 ((Off.alloc w _ _ _).trans (Off.alloc _ _ _ _))
 have hb1:Below w0.heap.size w0 W1:=by rw[<-hW1];exact hb0.trans ((((Below.refl _ w).alloc (Nat.le_refl _) _).alloc (by simp) _).mono hb0.size)
 refine⟨w.heap.size+1,[{ target:=.collected w.heap.size,args:= #[] }],W1,{ target:=.fn (.func gf) lb,args:= #[.func (.yield (w.heap.size+1)) #[] #[]] },W1,gf,
  #[.func (.yield (w.heap.size+1)) #[] #[]]++lb,W1,?_,?_,?_,?_, λ_=>h1,?_⟩
 .rw[<-hW1,hrec];exact run_enterLoop_outer _ _ _ _ _
 .simp only[resolve,hg];simp[go_sem]
 .intro f' hf';simp[Target.leads]at hf';subst hf';exact hFg
 .simp[invoke,go_sem,eg]
 .refine(hseq (w.heap.size+1)
   (λW=>I W∧W.heap[w.heap.size+1]?=some (.loop (rec .ready none))∧W.heap[w.heap.size]?=some (.deferred (some [])))
   W1 hb1 ?_ ⟨hI1,hL1,hK1⟩).mono ?_
  .rintro p q W hpq hq⟨hi,hl,hk⟩;have hlt:w.heap.size+1<W.heap.size:=(Array.getElem?_eq_some_iff.1 hl).1;have hy:=run_yield (P:=P) (args:= #[.int .i64 (p:Int),.int .i64 (q:Int)]) hl (by rw[hrec];simp[hps]);rw[hrec]at hy;refine⟨fn,_,assign,body,hy,roundIn_of_wpIn hfn (hassign _ p q W _ ⟨_,run_beginRound hl (by rw[hrec]),?_⟩)⟩;have hl2:(W.putObj (w.heap.size+1) (.loop { rec .ready none with state:=.busy })).heap[w.heap.size+1]?=some (.loop { rec .ready none with state:=.busy }):=World.putObj_heap_same hlt
   have hk2:(W.putObj (w.heap.size+1) (.loop { rec .ready none with state:=.busy })).heap[w.heap.size]?=some (.deferred (some [])):=(World.putObj_heap_other (by omega)).trans hk
   refine wpIn_mono (hbody _ p q _ hpq hq (by rw[World.putObj_size];exact hlt) (hI _ _ hi ((Off.putObj _ _ _).mono (by omega) (by omega)))) ?_
   rintro e a3 W3⟨rfl,⟨hz,hkp⟩,hi3⟩;have hl3:=(hkp (w.heap.size+1) (.inl ⟨by omega,by omega⟩)).trans hl2;have hk3:=(hkp (w.heap.size) (.inl ⟨by omega,by omega⟩)).trans hk2;have hr:=run_endRound (P:=P) none hl3;refine⟨_,_,hr,rfl,⟨hI _ _ hi3 ((Off.putObj _ _ _).mono (by omega) (by omega)),?_,(World.putObj_heap_other (by omega)).trans hk3⟩, λk hk'=>?_⟩
   .rw[World.putObj_heap_same (Array.getElem?_eq_some_iff.1 hl3).1,hrec];rfl
   .have hne:k≠w.heap.size+1:=by have :=hKp k hk';omega
    rw[World.putObj_heap_other hne,hkp k (.inr hk'),World.putObj_heap_other hne]
  .rintro e W2⟨⟨v,rfl⟩,hi,hl,hk⟩;exact⟨none,_,by have :=run_endLoop (P:=P) hl (by rw[hrec];simp);rw[hrec]at this;exact this,hdone _ (hI _ _ hi ((Off.putObj _ _ _).mono (by omega) (by omega))) ((World.putObj_heap_other (by omega)).trans hk)⟩
end Go.Proofs
end
section
namespace Go.Proofs
open Go Go.RowKit Go.Maps
variable [Lo.St]
def Lo.pairs_any(n:Nat)(w:World):Calls Lo.prog 31 #[.int .i64 (n:Int)] w λe w'=>e=.returned (.func (.func 60) #[] #[.pointer (some ⟨w.heap.size,0,none⟩)])∧w'=w.alloc (.cells #[.int .i64 (n:Int)] 3):=by obtain⟨U,U2,U3,U4,U5,U6⟩:=Lo.facts;go_enter Lo.get Tryz.func31,Tryz.ntmps31;go_wp2;go_ret;exact⟨rfl,rfl⟩
def Lo.pairs_seq(q:Nat){N:Nat}(hN:N<=64){bx:Nat}{w:World}(h1:w.cell? ⟨bx,0,none⟩=some (.int .i64 (N:Int)))(hb:bx<w.heap.size):
 Seq2 Fence.wide q Lo.prog 60 #[.pointer (some ⟨bx,0,none⟩)] N (λk=>k=bx) w:=by
 intro l J W hW hY h0;obtain⟨U,U2,U3,U4,U5,U6⟩:=Lo.facts;have c1:=(hW.cell (p:=⟨bx,0,none⟩) hb).trans h1;have HY:=Lib.hid hY;have HC1:=Lib.hid c1;clear hY h1 hW;refine callsIn_of_wp (Lo.get Tryz.func60) rfl trivial ?_ rfl
 simp only[Tryz.ntmps60,List.size_toArray,List.length_cons,List.length_nil,Nat.reduceAdd,Nat.reduceSub,Array.replicate_succ,Array.replicate_zero,List.push_toArray,List.append_toArray,List.nil_append,List.cons_append]
 gi_wp2
 clear c1
 gi_loopw [6] (λi wr=>∃a:Nat,a<=N∧i=.int .i64 (a:Int)∧J wr∧wr.cell? ⟨bx,0,none⟩=some (.int .i64 (N:Int))) (λi _=>N-(intOf i).toNat)
 case atStart=>exact⟨0,Nat.zero_le _,rfl,h0,HC1.out⟩
 case round=>
  obtain⟨a,ha,rfl,hj,hc⟩:=hrel
  by_cases hlt:a<N
  .have hlt':(a:Int)<(N:Int):=by omega
   have HJ:=Lib.hid (And.intro hj hc);clear hj hc
   gi_wp2
   gi_loopw [4] (λi wq=>∃b:Nat,a<=b∧b<=N∧i=.int .i64 (b:Int)∧J wq∧wq.cell? ⟨bx,0,none⟩=some (.int .i64 (N:Int))) (λi _=>N-(intOf i).toNat)
   case atStart=>exact⟨a,Nat.le_refl _,ha,rfl,HJ.out.1,HJ.out.2⟩
   case round=>
    obtain⟨b,hab,hbN,rfl,hj,hc⟩:=hrel
    by_cases hlb:b<N
    .have hlb':(b:Int)<(N:Int):=by omega
     obtain⟨fn,tmps,assign,body,hy,hR⟩:=HY.out a b wr hab hlb hj;clear HJ hj
     gi_wp2
     refine⟨λh=>(by simp[Fence.wide]at h),hR.mono ?_⟩;rintro e W3⟨rfl,hJ3,hk3⟩;have k1:W3.cell? ⟨bx,0,none⟩=some (.int .i64 (N:Int)):=(World.cell?_of_block (hk3 bx rfl)).trans hc;clear hc hR hy hk3
     gi_wp2
     refine⟨⟨b+1,by omega,by omega,by go_num,hJ3,k1⟩,?_⟩;simp[intOf];omega
    .obtain rfl:b=N:=by omega
     have HJ2:=Lib.hid (And.intro hj hc);clear HJ hj
     gi_wp2
     refine⟨⟨a+1,by omega,by go_num,HJ2.out.1,HJ2.out.2⟩,?_⟩;simp[intOf];omega
  .obtain rfl:a=N:=by omega
   have HJ:=Lib.hid hj;clear hj
   gi_wp2
   exact bodyPost_end (results_none rfl _ _ _) rfl ⟨⟨_,rfl⟩,HJ.out⟩
end Go.Proofs
end
section
namespace Go.Proofs
open Go Go.RowKit Go.Maps
def wiC(ls:List Int)(a b:Nat)(p:Int×Int):Bool:=decide (a<=classF ls p.1)&&decide (classF ls p.2<=b)
variable [Lo.St]
attribute [local go_sem] Oper.semAt_some
def Lo.cnt1_ok{n:Int}(h:0<=n∧n<=20)(w:World):Calls Lo.prog 29 #[.int .i64 n] w λe w'=>e=.returned (.bool false)∧w'=w:=by
 have U:=Lo.underlying;have U2:=Lo.runUnderlying;have C:=Lo.call Tryz.func30;go_enter Lo.get Tryz.func29,Tryz.ntmps29
 go_wp2_with(go_at_call 30;refine(Lo.cbetween_ok h.1 h.2 _).mono ?_;rintro e w1⟨rfl,rfl⟩)
 go_ret;exact⟨rfl,rfl⟩
section
variable {w:World} {B:Nat} {cs:List Int} {A:Option Addr} {cap:Nat} (hr:xJ w B A cs) (hlen:cs.length<=64) (hB:B<=w.heap.size) (hp:∀x∈cs,0<=x∧x<=20)
include w B cs A cap hr hlen hB hp
theorem Lo.idxn_ok:
 Calls Lo.prog 59 #[.slice A cs.length cap,.func (.func 29) #[] #[]] w λe w'=>e=.returned (.int .i64 (-1))∧w'=w:=by
 obtain⟨U,U2,U3,U4,U5,U6⟩:=Lo.facts;have C:=Lo.call Tryz.func29;have HP:=Lib.hid (And.intro hp hr);clear hp hr;go_enter Lo.get Tryz.func59,Tryz.ntmps59;go_wp2
 go_loopw [8] (λi wr=>∃k:Nat,k<=cs.length∧i=.int .i64 (k:Int)∧wr=w) (λi _=>cs.length-(intOf i).toNat)
 case atStart=>exact⟨0,Nat.zero_le _,rfl,rfl⟩
 case round=>
  obtain⟨k,hk,rfl,rfl⟩:=hrel
  by_cases hlt:k<cs.length
  .obtain⟨bb,off,rfl,hbb,hc⟩:=HP.out.2 (by omega);have r1:=PT hc hlt;have hx:=HP.out.1 _ (List.getElem_mem hlt);generalize cs[k]=x at hx r1;have hlt':(k:Int)<(cs.length:Int):=by omega
   have HX:=Lib.hid hx;clear hc hx
   go_wp2_with(go_at_call 29;refine(Lo.cnt1_ok HX.out _).mono ?_;rintro e w1⟨rfl,rfl⟩)
   go_roundw
   case rel=>exact⟨k+1,by omega,by go_num,trivial⟩
   case measure=>simp[intOf];omega
  .obtain rfl:k=cs.length:=by omega
   go_wp2;go_ret;exact⟨rfl,rfl⟩
theorem Lo.contn_ok:
 Calls Lo.prog 28 #[.slice A cs.length cap,.func (.func 29) #[] #[]] w λe w'=>e=.returned (.bool false)∧w'=w:=by
 obtain⟨U,U2,U3,U4,U5,U6⟩:=Lo.facts;have C:=Lo.call Tryz.func59;go_enter Lo.get Tryz.func28,Tryz.ntmps28
 go_wp2_with(go_at_call 59;refine(Lo.idxn_ok hr hlen hB hp).mono ?_;rintro e w1⟨rfl,rfl⟩)
 go_ret;exact⟨rfl,rfl⟩
end
def sum_take{l:List Int}{k:Nat}(h:k<l.length):(l.take (k+1)).sum=(l.take k).sum+l[k]:=by rw[List.take_succ_eq_append_getElem h,List.sum_append];simp
def sum_rg{l:List Int}(h:∀x∈l,0<=x∧x<=20):0<=l.sum∧l.sum<=20*l.length:=by
 induction l with
 |nil=>simp
 |cons x l ih=>
  have h1:=h x List.mem_cons_self;have h2:=ih λy hy=>h y (List.mem_cons_of_mem _ hy)
  simp only[List.sum_cons,List.length_cons];omega
def Lo.res12{tm:Array Value}{W:World}{b6 b7 b8 b9:Nat}{x y z:Int}{o:Bool}(t6:tm.getD 6 undef=.pointer (some ⟨b6,0,none⟩))(t7:tm.getD 7 undef=.pointer (some ⟨b7,0,none⟩))(t8:tm.getD 8 undef=.pointer (some ⟨b8,0,none⟩))(t9:tm.getD 9 undef=.pointer (some ⟨b9,0,none⟩))
 (c6:W.cell? ⟨b6,0,none⟩=some (.bool o)) (c7:W.cell? ⟨b7,0,none⟩=some (.int .i64 x)) (c8:W.cell? ⟨b8,0,none⟩=some (.int .i64 y)) (c9:W.cell? ⟨b9,0,none⟩=some (.int .i64 z)):(results Tryz.f12 tm).run Lo.prog W=.ok (.tuple #[.bool o,.int .i64 x,.int .i64 y,.int .i64 z]) W:=by
 obtain⟨U,U2,U3,U4,U5,U6⟩:=Lo.facts;have t6':tm[6]?.getD undef=.pointer (some ⟨b6,0,none⟩):=by simpa using t6
 have t7':tm[7]?.getD undef=.pointer (some ⟨b7,0,none⟩):=by simpa using t7
 have t8':tm[8]?.getD undef=.pointer (some ⟨b8,0,none⟩):=by simpa using t8
 have t9':tm[9]?.getD undef=.pointer (some ⟨b9,0,none⟩):=by simpa using t9
 unfold results Tryz.f12;dsimp only;go_simp
def Lo.sorts_ok{w:World}{B:Nat}{ls cs:List Int}{ps:List (Int×Int)}{A1 A2 A3:Option Addr}{c1 c2 c3:Nat}(h1:xJ w B A1 ls)(h2:YM w B A2 ps)(h3:xJ w B A3 cs)(hB:B<=w.heap.size)(hs:SzOk ls ps)
 (hn:cs.length=ls.length+1) (hc:∀x∈cs,0<=x∧x<=20) (hcap:cs.length<=c3) (hsum:cs.sum=(ps.length:Int)) (hw:∀a b,a<=b->b<cs.length->cntS (wiC ls a b) ps<=((cs.take (b+1)).drop a).sum):
 Calls Lo.prog 12 #[.slice A1 ls.length c1,.slice A2 ps.length c2,.slice A3 cs.length c3] w λe w'=>e=.returned (.tuple #[.bool true,.int .i64 0,.int .i64 0,.int .i64 0])∧Below w.heap.size w w':=by
 obtain⟨U,U2,U3,U4,U5,U6⟩:=Lo.facts;have C:=Lo.call Tryz.func23;have C2:=Lo.call Tryz.func24;have C3:=Lo.call Tryz.func28;have C4:=Lo.call Tryz.func31;have hl3:=hs.l3;have hl20:=hs.s20;obtain⟨os,hos⟩:∃os:List Obj,os= [.cells #[.slice A1 ls.length c1] 22,.cells #[.slice A2 ps.length c2] 23,.cells #[.slice A3 cs.length c3] 22,.cells #[.bool false] 4,.cells #[.int .i64 0] 3,.cells #[.int .i64 0] 3,.cells #[.int .i64 0] 25]:=⟨_,rfl⟩;obtain⟨X,hX⟩:∃X,nZ os w=X:=⟨_,rfl⟩;have sX:X.heap.size=w.heap.size+7:=by rw[<-hX,qD,hos];rfl
 have bX:Below w.heap.size w X:=hX ▸ mo os w;have g:∀k,k<7->X.heap[w.heap.size+k]?=os[k]?:= λk h=>hX ▸ jT os w k (by rw[hos];simpa using h)
 rw[hos]at g hX
 have hR:∀W,Below X.heap.size X W->xJ W B A1 ls∧YM W B A2 ps∧xJ W B A3 cs:= λW hW=>
  have hk:∀d o,d<B->W.cell? ⟨d,o,none⟩=w.cell? ⟨d,o,none⟩:= λd o h=>dH (bX.trans (hW.mono bX.size)) d o (by omega)
  ⟨h1.keep hk,h2.keep hk,h3.keep hk⟩
 have hC:∀W,Below X.heap.size X W->W.cell? ⟨w.heap.size,0,none⟩=some (.slice A1 ls.length c1)∧W.cell? ⟨w.heap.size+1,0,none⟩=some (.slice A2 ps.length c2)∧W.cell? ⟨w.heap.size+1+1,0,none⟩=some (.slice A3 cs.length c3):= λW hW=>
  ⟨eY ((hW.block _ (by omega)).trans (g 0 (by omega))),eY ((hW.block _ (by omega)).trans (g 1 (by omega))),eY ((hW.block _ (by omega)).trans (g 2 (by omega)))⟩
 have HR:=Lib.hid (And.intro hR hC);have HX:=Lib.hid (And.intro hX (And.intro bX g));have HS:=Lib.hid (And.intro hs (And.intro hc (And.intro hsum (And.intro hw hn))));have dn:((cs.length:Int) !=(ls.length:Int)+1)=false:=by rw[hn];simp
 have hn4:1<=cs.length∧cs.length<=4:=by omega
 have iw:IntKind.i64.wrap ((ls.length:Int)+1)=(ls.length:Int)+1:=by rw[IntKind.wrap_i64];omega
 clear hX bX g hR hC h1 h2 h3 hs hc hsum hw hn;obtain⟨e0,e1,e2⟩:=HR.out.2 X (Below.refl _ _);refine(callsIn_wide (n:=3)).1 ?_
 refine callsIn_of_wp_marks (Lo.get Tryz.func12) rfl trivial ?_
 refine wpIn_wide.2 ?_
 simp only[Tryz.ntmps12,List.size_toArray,List.length_cons,List.length_nil,Nat.reduceAdd,Nat.reduceSub,Array.replicate_succ,Array.replicate_zero,List.push_toArray,List.append_toArray,List.nil_append,List.cons_append];go_wp2;show Calls Lo.prog 23 _ (nZ [.cells #[.slice A1 ls.length c1] 22,.cells #[.slice A2 ps.length c2] 23,.cells #[.slice A3 cs.length c3] 22,.cells #[.bool false] 4,.cells #[.int .i64 0] 3,.cells #[.int .i64 0] 3,.cells #[.int .i64 0] 25] w) _;rw[HX.out.1];refine(Lo.checkSizes_ok (HR.out.1 X (Below.refl _ _)).1 (HR.out.1 X (Below.refl _ _)).2.1 (by omega) HS.out.1).mono ?_
 rintro e w1⟨rfl,hb1⟩;obtain⟨e0,e1,e2⟩:=HR.out.2 w1 hb1;have H1:=Lib.hid hb1;have CT:=hb1.size;clear hb1
 go_wp2_with(go_at_call 28;refine(Lo.contn_ok (HR.out.1 _ H1.out).2.2 (by omega) (by omega) HS.out.2.1).mono ?_;rintro e w2⟨rfl,rfl⟩)
 clear e0 e1 e2
 go_loopw [11,40] (λs i wr=>∃k:Nat,k<=cs.length∧i=.int .i64 (k:Int)∧s=.int .i64 (cs.take k).sum∧wr=w2) (λ_ i _=>cs.length-(intOf i).toNat)
 case atStart=>exact⟨0,Nat.zero_le _,rfl,rfl,rfl⟩
 case round=>
  obtain⟨k,hk,rfl,rfl,rfl⟩:=hrel
  by_cases hlt:k<cs.length
  .have hlt':(k:Int)<(cs.length:Int):=by omega
   obtain⟨b3,o3,rfl,hb3,hc3⟩:=(HR.out.1 wr H1.out).2.2 (by omega);have r1:=PT hc3 hlt;have ht:=sum_take hlt;have hr1:=HS.out.2.1 _ (List.getElem_mem hlt);have hr2:=sum_rg (l:=cs.take k) λx hx=>HS.out.2.1 x (List.mem_of_mem_take hx)
   rw[List.length_take]at hr2;clear hc3;generalize cs[k]=x at r1 ht hr1;generalize(cs.take k).sum=s at ht hr2;have HT:=Lib.hid ht;clear ht;go_wp2;go_roundw
   case rel=>exact⟨k+1,by omega,by go_num,by rw[HT.out],trivial⟩
   case measure=>simp[intOf];omega
  .obtain rfl:k=cs.length:=by omega
   rw[List.take_length,HS.out.2.2.1];obtain⟨e0,e1,e2⟩:=HR.out.2 wr H1.out
   go_wp2_with(go_at_call 31;refine(Lo.pairs_any _ _).mono ?_;rintro e w3⟨rfl,rfl⟩)
   clear e0 e1 e2;obtain⟨W2,hW2⟩:∃W2,wr.alloc (.cells #[.int .i64 (cs.length:Int)] 3)=W2:=⟨_,rfl⟩;have s2:W2.heap.size=wr.heap.size+1:=by rw[<-hW2];simp
   have b2:Below X.heap.size X W2:=hW2 ▸ H1.out.alloc (by omega) _;have c2':W2.cell? ⟨wr.heap.size,0,none⟩=some (.int .i64 (cs.length:Int)):=by rw[<-hW2];simp
   have H2:=Lib.hid b2;rw[hW2];clear hW2 b2
   refine(wpIn_wide (n:=3)).1 (wpIn_rangeFunc_seq2 rfl (by omega) (gf:=60) (lb:= #[.pointer (some ⟨wr.heap.size,0,none⟩)]) rfl trivial (Lo.call Tryz.func60) (Lo.pairs_seq 2 (N:=cs.length) (by omega) c2' (by omega)) (Below.refl _ _) rfl (λk hk=>by subst hk;omega)
    (λW=>Below X.heap.size X W∧W2.heap.size<=W.heap.size) (λA B h ho=>⟨ho.below h.1 (by omega) (Nat.le_refl _),Nat.le_trans h.2 ho.size⟩) ⟨H2.out,Nat.le_refl _⟩ ?_ ?assign ?body ?done)
   case assign=>
    intro l p q W K hK
    gi_wp2
    exact hK
   case body=>
    rintro l p q W hpq hq hlW⟨hbW,hzW⟩;obtain⟨e0,e1,e2⟩:=HR.out.2 W hbW;obtain⟨b3,o3,rfl,hb3,hc3⟩:=(HR.out.1 W hbW).2.2 (by omega);have HW:=Lib.hid (And.intro hbW hc3);clear hbW c2' hc3;have μq:IntKind.i64.wrap ((q:Int)+1)=(q:Int)+1:=by rw[IntKind.wrap_i64];omega
    gi_wp2
    clear e0 e1 e2;obtain⟨D,hD⟩:∃D,(cs.take (q+1)).drop p=D:=⟨_,rfl⟩;have hDl:D.length=q+1-p:=by rw[<-hD];simp;omega
    have hDm:∀x∈D,0<=x∧x<=20:= λx hx=>HS.out.2.1 x (List.mem_of_mem_take (List.mem_of_mem_drop (hD ▸ hx)))
    have hDc:∀j(h:j<D.length),W.cell? ⟨b3,o3+p+j,none⟩=some (.int .i64 D[j]):= λj h=>by have h2:=PT HW.out.2 (k:=p+j) (by omega);rw[<-Nat.add_assoc]at h2;rw[h2];subst hD;simp
    have HD:=Lib.hid (And.intro hDm (And.intro hDc hD));clear hDm hDc hD;rw[<-hDl];have hD4:D.length<=4:=by omega
    clear hDl
    gi_loopw [16,63] (λs i wr=>∃k:Nat,k<=D.length∧i=.int .i64 (k:Int)∧s=.int .i64 (D.take k).sum∧wr=W) (λ_ i _=>D.length-(intOf i).toNat)
    case atStart=>exact⟨0,Nat.zero_le _,rfl,rfl,rfl⟩
    case round=>
     obtain⟨k,hk,rfl,rfl,rfl⟩:=hrel
     by_cases hlt:k<D.length
     .have hlt':(k:Int)<(D.length:Int):=by omega
      have r1:=HD.out.2.1 k hlt;have ht:=sum_take hlt;have hr1:=HD.out.1 _ (List.getElem_mem hlt);have hr2:=sum_rg (l:=D.take k) λx hx=>HD.out.1 x (List.mem_of_mem_take hx)
      rw[List.length_take]at hr2;generalize D[k]=x at r1 ht hr1;generalize(D.take k).sum=s at ht hr2;have HT:=Lib.hid ht;clear ht
      gi_wp2
      refine⟨⟨k+1,by omega,by go_num,by rw[HT.out],trivial⟩,?_⟩;simp[intOf];omega
     .obtain rfl:k=D.length:=by omega
      rw[List.take_length];have hr2:=sum_rg HD.out.1;have hwS:=HS.out.2.2.2.1 p q hpq hq;rw[HD.out.2.2]at hwS;generalize D.sum=S at hr2 hwS;have HWS:=Lib.hid hwS;clear hwS HD;obtain⟨e0,e1,e2⟩:=HR.out.2 wr HW.out.1
      gi_wp2
      clear e0 e1 e2;obtain⟨V,hV⟩:∃V,V=wr:=⟨_,rfl⟩;subst hV;have μX:X.heap.size<=V.heap.size:=HW.out.1.size
      gi_loopw [16,73] (λs i wq=>∃k:Nat,k<=ps.length∧i=.int .i64 (k:Int)∧s=.int .i64 (S-cntS (wiC ls p q) (ps.take k))∧Below V.heap.size V wq) (λ_ i _=>ps.length-(intOf i).toNat)
      case atStart=>exact⟨0,Nat.zero_le _,rfl,by simp[cntS],Below.refl _ _⟩
      case round=>
       obtain⟨k,hk,rfl,rfl,hbq⟩:=hrel;have sq:=hbq.size;have HQ:=Lib.hid hbq;have HRL:=Lib.hid (show∀Z,Below wr.heap.size wr Z->xJ Z B A1 ls fromλZ hZ=>(HR.out.1 Z (HW.out.1.trans ((hbq.trans (hZ.mono sq)).mono μX))).1);have bdk:=cntS_le (wiC ls p q) (ps.take k);rw[List.length_take]at bdk
       by_cases hlt:k<ps.length
       .have hlt':(k:Int)<(ps.length:Int):=by omega
        obtain⟨b2,o2,rfl,hb2,hc2⟩:=(HR.out.1 wr (HW.out.1.trans (hbq.mono μX))).2.1 (by omega);obtain⟨k0,k1⟩:=Si hc2 hlt;have ht:cntS (wiC ls p q) (ps.take (k+1))=cntS (wiC ls p q) (ps.take k)+(if p<=classF ls ps[k].1∧classF ls ps[k].2<=q then 1 else 0):=by rw[cntS_take hlt];simp[wiC]
        clear hc2 hbq;generalize ps[k]=x at k0 k1 ht;obtain⟨lo,hi⟩:=x;simp only at k0 k1 ht;obtain⟨e0, -, -⟩:=HR.out.2 (wr.alloc (.cells #[.int .i64 lo,.int .i64 hi] 33)) (HW.out.1.trans ((HQ.out.alloc sq _).mono μX));have ca:=classF_le ls lo;have cb:=classF_le ls hi;generalize cntS (wiC ls p q) (ps.take k)=s0 at ht bdk⊢;have HT:=Lib.hid ht;clear ht
        by_cases h1:p<=classF ls lo
        .have d1:(p:Int)<=(classF ls lo:Int):=by omega
         by_cases h2:classF ls hi<=q
         .have d2:(classF ls hi:Int)<=(q:Int):=by omega
          gi_wp2_with (refine⟨trivial,?_⟩;gi_at_call 24;refine(CallsIn.inRound l (callsIn_wide.2 (Lo.classOf_any (HRL.out _ ((Below.refl _ _).alloc (Nat.le_refl _) _)) (by omega) (by simp;omega) _))).mono ?_;rintro e w5⟨rfl,rfl⟩)
          refine⟨⟨k+1,by omega,?_,?_,HQ.out.alloc sq _⟩,?_⟩
          .go_num
          .rw[HT.out,if_pos ⟨h1,h2⟩];go_num
          .simp[intOf];omega
         .have d2:¬((classF ls hi:Int)<=(q:Int)):=by omega
          gi_wp2_with (refine⟨trivial,?_⟩;gi_at_call 24;refine(CallsIn.inRound l (callsIn_wide.2 (Lo.classOf_any (HRL.out _ ((Below.refl _ _).alloc (Nat.le_refl _) _)) (by omega) (by simp;omega) _))).mono ?_;rintro e w5⟨rfl,rfl⟩)
          refine⟨⟨k+1,by omega,?_,?_,HQ.out.alloc sq _⟩,?_⟩
          .go_num
          .rw[HT.out,if_neg λh=>h2 h.2];simp
          .simp[intOf];omega
        .have d1:¬((p:Int)<=(classF ls lo:Int)):=by omega
         gi_wp2_with (refine⟨trivial,?_⟩;gi_at_call 24;refine(CallsIn.inRound l (callsIn_wide.2 (Lo.classOf_any (HRL.out _ ((Below.refl _ _).alloc (Nat.le_refl _) _)) (by omega) (by simp;omega) _))).mono ?_;rintro e w5⟨rfl,rfl⟩)
         refine⟨trivial,?_⟩
         gi_wp2
         refine⟨⟨k+1,by omega,?_,?_,HQ.out.alloc sq _⟩,?_⟩
         .go_num
         .rw[HT.out,if_neg λh=>h1 h.1];simp
         .simp[intOf];omega
       .obtain rfl:k=ps.length:=by omega
        rw[List.take_length]at bdk⊢;have hw':=HWS.out;generalize cntS (wiC ls p q) ps=s0 at bdk hw'⊢;have hneg:¬(S-s0<0):=by omega
        have HB2:=Lib.hid hbq;clear hbq;have sq2:=HB2.out.size
        gi_wp2
        exact⟨λk hk=>HB2.out.block k (by omega),by rw[<-sX];exact HW.out.1.trans (HB2.out.mono μX),by omega⟩
   case done=>
    rintro W⟨hbW,hzW⟩hK;have g:∀k,k<7->W.heap[w.heap.size+k]?=_:= λk h=>(hbW.block _ (by omega)).trans (HX.out.2.2 k h)
    have g3:=g 3 (by omega);have g4:=g 4 (by omega);have g5:=g 5 (by omega);have g6:=g 6 (by omega);have e3:W.cell? ⟨w.heap.size+1+1+1,0,none⟩=_:=eY g3;have e4:W.cell? ⟨w.heap.size+1+1+1+1,0,none⟩=_:=eY g4;have e5:W.cell? ⟨w.heap.size+1+1+1+1+1,0,none⟩=_:=eY g5;have e6:W.cell? ⟨w.heap.size+1+1+1+1+1+1,0,none⟩=_:=eY g6;have f3:W.frozen? ⟨w.heap.size+1+1+1,0,none⟩=_:=iE g3;have f4:W.frozen? ⟨w.heap.size+1+1+1+1,0,none⟩=_:=iE g4;have f5:W.frozen? ⟨w.heap.size+1+1+1+1+1,0,none⟩=_:=iE g5;have f6:W.frozen? ⟨w.heap.size+1+1+1+1+1+1,0,none⟩=_:=iE g6;have HB2:=Lib.hid (And.intro hbW (And.intro hK g));clear hbW hK g g3 g4 g5 g6 c2';go_wp2;obtain⟨W8,M3⟩:∃W8,(((W.setCell ⟨w.heap.size+1+1+1,0,none⟩ (.bool true)).setCell ⟨w.heap.size+1+1+1+1,0,none⟩ (.int .i64 0)).setCell ⟨w.heap.size+1+1+1+1+1,0,none⟩ (.int .i64 0)).setCell ⟨w.heap.size+1+1+1+1+1+1,0,none⟩ (.int .i64 0)=W8:=⟨_,rfl⟩
    have g3:W8.heap[w.heap.size+1+1+1]?=some (.cells #[.bool true] 4):=by rw[<-M3,iO (by omega),iO (by omega),iO (by omega)];exact vK (HB2.out.2.2 3 (by omega))
    have g4:W8.heap[w.heap.size+1+1+1+1]?=some (.cells #[.int .i64 0] 3):=by rw[<-M3,iO (by omega),iO (by omega)];refine vK (v0:=.int .i64 0) ?_;rw[iO (by omega)];exact HB2.out.2.2 4 (by omega)
    have g5:W8.heap[w.heap.size+1+1+1+1+1]?=some (.cells #[.int .i64 0] 3):=by rw[<-M3,iO (by omega)];refine vK (v0:=.int .i64 0) ?_;rw[iO (by omega),iO (by omega)];exact HB2.out.2.2 5 (by omega)
    have g6:W8.heap[w.heap.size+1+1+1+1+1+1]?=some (.cells #[.int .i64 0] 25):=by rw[<-M3];refine vK (v0:=.int .i64 0) ?_;rw[iO (by omega),iO (by omega),iO (by omega)];exact HB2.out.2.2 6 (by omega)
    have D7:∀k:Nat,k<w.heap.size∨w.heap.size+6<k->W8.heap[k]?=W.heap[k]?:= λk h=>by rw[<-M3,iO (by omega),iO (by omega),iO (by omega),iO (by omega)]
    have hs8:W8.heap.size=W.heap.size:=by rw[<-M3];simp[World.setCell]
    have YO:W8.os=W.os∧W8.tape=W.tape∧W8.output=W.output:=by rw[<-M3];exact⟨rfl,rfl,rfl⟩
    rw[M3];have hK8:=(D7 _ (by omega)).trans HB2.out.2.1;have SN:=HX.out.2.1.trans (HB2.out.1.mono (by omega));clear M3;refine⟨by simp,.inl ⟨_,_,rfl,run_takeDeferred hK8,?_⟩⟩;have hp:∀k,k<W2.heap.size->(W8.putObj W2.heap.size (.deferred none)).heap[k]?=W8.heap[k]?:= λk h=>World.putObj_heap_other (by omega)
    refine⟨_,Lo.res12 rfl rfl rfl rfl (eY ((hp _ (by omega)).trans g3)) (eY ((hp _ (by omega)).trans g4)) (eY ((hp _ (by omega)).trans g5)) (eY ((hp _ (by omega)).trans g6)),rfl,?_⟩;exact SN.trans ⟨YO.1,YO.2.1,YO.2.2,by rw[World.putObj_size];have :=SN.size;omega, λk hk=>(hp k (by omega)).trans (D7 k (.inl hk))⟩
end Go.Proofs
end
section
namespace Go.Proofs
open Go Go.RowKit Go.Maps
def nameP(i:Nat):ByteArray:=⟨#[112,48+i.toUInt8]⟩
variable [Lo.St]
def Lo.und30:Lo.prog.underlying 30=some (.slice 9):=(Lo.underlying 30).trans (by kernel_rfl)
def Lo.infoS:(Lo.prog.info? 9).map (λi=>(i.zero,i.size,i.bytes))=some (some (.string ByteArray.empty),1,16):=by rw[Lo.info];kernel_rfl
def Lo.conv1(n:UInt8)(z:Int)(h:(n.toNat:Int)=z)(w:World):(convert 110 9 (.slice (some ⟨w.heap.size,0,none⟩) 1 1)).run Lo.prog (w.alloc (.cells #[.int .u8 z] 5))=.ok (.string ⟨#[n]⟩) (w.alloc (.cells #[.int .u8 z] 5)):=by
 subst h;refine run_convert_bytes_back _ 110 9 5 ⟨w.heap.size,0,none⟩ 1 [n] ((Lo.underlying 110).trans (by kernel_rfl)) ((Lo.underlying 5).trans (by kernel_rfl)) ((Lo.underlying 9).trans (by kernel_rfl)) λj hj=>?_
 obtain rfl:j=0:=by simpa using hj
 simp[Addr.add]
def Lo.digit_ok{i:Nat}(h:i<5)(w:World):Calls Lo.prog 25 #[.int .i64 (i:Int)] w λe w'=>e=.returned (.string ⟨#[48+i.toUInt8]⟩)∧Below w.heap.size w w':=by
 obtain⟨U,U2,U3,U4,U5,U6⟩:=Lo.facts;have μB:=Lo.conv1 48 48 rfl w;have M1:=Lo.conv1 49 49 rfl w;have M2:=Lo.conv1 50 50 rfl w;have ξJ:=Lo.conv1 51 51 rfl w;have ρT:=Lo.conv1 52 52 rfl w;rcases(by omega:i=0∨i=1∨i=2∨i=3∨i=4)with rfl|rfl|rfl|rfl|rfl
 all_goals
  clear h;go_enter Lo.get Tryz.func25,Tryz.ntmps25;go_wp2;go_ret;exact⟨rfl,(Below.refl _ _).alloc (Nat.le_refl _) _⟩
def namesV(n:Nat):List Value:=(List.range n).map λi=>.string (nameP i)
def namesV_succ(n:Nat):namesV (n+1)=namesV n++ [.string (nameP n)]:=by simp[namesV,List.range_succ]
def Lo.named_ok{n:Nat}(h:n<=5)(w:World):Calls Lo.prog 7 #[.int .i64 (n:Int)] w λe w'=>∃v,e=.returned v∧w'.ownsRow w.heap.size 9 1 v n (namesV n)∧Below w.heap.size w w':=by
 obtain⟨U,U2,U3,U4,U5,U6⟩:=Lo.facts;have C:=Lo.call Tryz.func25;obtain⟨i0,hi,hz0,hz1,hz2⟩:=info_parts Lo.infoS;go_enter Lo.get Tryz.func7,Tryz.ntmps7;go_wp2
 go_loopw [3,4] (λv i wr=>∃k:Nat,k<=n∧i=.int .i64 (k:Int)∧wr.ownsRow w.heap.size 9 1 v k (namesV k)∧Below w.heap.size w wr) (λ_ i _=>n-(intOf i).toNat)
 case atStart=>exact⟨0,Nat.zero_le _,rfl,World.ownsRow_nil _ _ _ _,Below.refl _ _⟩
 case round=>
  obtain⟨k,hk,rfl,hown,hb⟩:=hrel
  by_cases hlt:k<n
  .have hlt':(k:Int)<(n:Int):=by omega
   have hbs:=hb.size;have HO:=Lib.hid (And.intro hown hb);clear hown hb
   go_wp2_with(first
    |(go_at_call 25;refine(Lo.digit_ok (by omega) _).mono ?_;rintro e w2⟨rfl,hb2⟩;have hs2:=hb2.size;have H3:=Lib.hid (And.intro (HO.out.2.trans (hb2.mono hbs)) (ownsRow.below HO.out.1 hb2));clear hb2)
    |(at_builtin;refine wpList_append_own _ rfl _ _ 30 rfl w.heap.size 9 i0 (.string ByteArray.empty) 1 16 Lo.und30 hi hz0 hz1 hz2 rfl (by decide) _ k (namesV k) rfl (World.ownsRow.alloc H3.out.2 _) ⟨w2.heap.size,0,none⟩ 1 1 [.string (nameP k)] rfl rfl ?c1 ?c2 ?c3 ?c4 ?c5 ?_))
   case c1=>exact World.news_of_block (t:=9) (fr:=(0,0)) (cs:= #[.string (nameP k)]) (World.alloc_heap_new _ _)
   case c2=>intro u hu;simp only[List.mem_cons,List.not_mem_nil,or_false]at hu;subst hu;rfl
   case c3=>unfold maxLen;omega
   case c4=>omega
   case c5=>rw[World.size_alloc];omega
   intro v3 X3 o3 g3 _;have hb4:Below w.heap.size w X3:=(H3.out.1.alloc (by omega) _).grown g3 (by rw[World.size_alloc];omega) (λk hk=>(H3.out.2.lt k hk).1);have K:=Lib.hid (And.intro (show X3.ownsRow w.heap.size 9 1 v3 (k+1) (namesV (k+1)) by rw[namesV_succ];exact o3) hb4);clear o3 g3 hb4;go_wp2;go_roundw
   case rel=>exact⟨k+1,hlt,by go_num,K.out.1,K.out.2⟩
   case measure=>simp[intOf];omega
  .obtain rfl:k=n:=by omega
   have K:=Lib.hid (And.intro hown hb);clear hown hb;go_wp2;go_ret;exact⟨_,rfl,K.out.1,K.out.2⟩
end Go.Proofs
end
section
namespace Go.Proofs
open Go Go.RowKit Go.Maps
def RealS(ps:List (Int×Int))(xs:List Int):Prop:=xs.length=ps.length∧∀i(h:i<ps.length)(h2:i<xs.length),ps[i].1<=xs[i]∧xs[i]<=ps[i].2
def realN(ls xs:List Int)(c:Nat):Int:=(xs.countP λx=>decide (classF ls x=c):Nat)
def realL(ls xs:List Int)(m:Nat):List Int:=(List.range m).map (realN ls xs)
section
variable {ps:List (Int×Int)} {xs ls:List Int} {m:Nat}
def real_zip(h:RealS ps xs):(ps.zip xs).map Prod.fst=ps∧(ps.zip xs).map Prod.snd=xs∧∀t∈ps.zip xs,t.1.1<=t.2∧t.2<=t.1.2:=by refine⟨List.map_fst_zip (Nat.le_of_eq h.1.symm),List.map_snd_zip (Nat.le_of_eq h.1), λt ht=>?_⟩;obtain⟨i,hi,rfl⟩:=List.mem_iff_getElem.1 ht;rw[List.length_zip]at hi;simpa using h.2 i (by omega) (by omega)
def real_count{p:Int×Int->Bool}{q:Int->Bool}(h:RealS ps xs)(hpq:∀a x,a.1<=x->x<=a.2->p a=true->q x=true):ps.countP p<=xs.countP q:=by
 obtain⟨h1,h2,h3⟩:=real_zip h;have e1:ps.countP p=(ps.zip xs).countP (p ∘ Prod.fst):=by rw[<-List.countP_map,h1]
 have e2:xs.countP q=(ps.zip xs).countP (q ∘ Prod.snd):=by rw[<-List.countP_map,h2]
 rw[e1,e2];exact List.countP_mono_left λt ht hp=>hpq _ _ (h3 t ht).1 (h3 t ht).2 hp
def real_count'{p:Int×Int->Bool}{q:Int->Bool}(h:RealS ps xs)(hpq:∀a x,a.1<=x->x<=a.2->q x=true->p a=true):xs.countP q<=ps.countP p:=by
 obtain⟨h1,h2,h3⟩:=real_zip h;have e1:ps.countP p=(ps.zip xs).countP (p ∘ Prod.fst):=by rw[<-List.countP_map,h1]
 have e2:xs.countP q=(ps.zip xs).countP (q ∘ Prod.snd):=by rw[<-List.countP_map,h2]
 rw[e1,e2];exact List.countP_mono_left λt ht hp=>hpq _ _ (h3 t ht).1 (h3 t ht).2 hp
def real_in(h:RealS ps xs)(c:Nat):cntS (inC ls c) ps<=realN ls xs c:=by unfold cntS realN;refine Int.ofNat_le.2 (real_count h λa x h1 h2 hp=>?_);simp only[inC,Bool.and_eq_true,decide_eq_true_eq]at hp⊢;have m1:=classF_mono ls h1;have m2:=classF_mono ls h2;omega
def real_may(h:RealS ps xs)(c:Nat):realN ls xs c<=cntS (mayC ls c) ps:=by unfold cntS realN;refine Int.ofNat_le.2 (real_count' h λa x h1 h2 hp=>?_);simp only[mayC,Bool.and_eq_true,decide_eq_true_eq]at hp⊢;have m1:=classF_mono ls h1;have m2:=classF_mono ls h2;omega
def sumR(ls xs:List Int)(a d:Nat):Int:=((List.range d).map λc=>realN ls xs (a+c)).sum
def sumR_count(a:Nat):∀d,sumR ls xs a d=((xs.countP λx=>decide (a<=classF ls x)&&decide (classF ls x<a+d):Nat):Int)
 |0=>by
  have:(xs.countP λx=>decide (a<=classF ls x)&&decide (classF ls x<a+0))=0:=List.countP_eq_zero.2 λx _=>by simp
  rw[this];rfl
 |d+1=>by
  have e:(xs.countP λx=>decide (a<=classF ls x)&&decide (classF ls x<a+(d+1)))=(xs.countP λx=>decide (a<=classF ls x)&&decide (classF ls x<a+d))+xs.countP λx=>decide (classF ls x=a+d):=by
   induction xs with
   |nil=>rfl
   |cons x l ih=>
    simp only[List.countP_cons,Bool.and_eq_true,decide_eq_true_eq]at ih⊢;rw[ih]
    by_cases h1:a<=classF ls x<;>by_cases h2:classF ls x<a+d<;>by_cases h3:classF ls x=a+d<;>by_cases h4:classF ls x<a+(d+1)<;>simp[h1,h2,h3,h4]<;>omega
  have hs:sumR ls xs a (d+1)=sumR ls xs a d+realN ls xs (a+d):=by unfold sumR;rw[List.range_succ,List.map_append,List.sum_append];simp
  rw[hs,sumR_count a d,e];unfold realN;omega
def real_sums(h:RealS ps xs){a b:Nat}(hab:a<=b)(hb:b<m):cntS (wiC ls a b) ps<=(((realL ls xs m).take (b+1)).drop a).sum:=by
 have e:((realL ls xs m).take (b+1)).drop a=(List.range (b+1-a)).map λc=>realN ls xs (a+c):=by
  apply List.ext_getElem
  .simp[realL];omega
  .intro i h1 h2;simp[realL]
 rw[e];show cntS (wiC ls a b) ps<=sumR ls xs a (b+1-a);rw[sumR_count];unfold cntS;refine Int.ofNat_le.2 (real_count h λa' x h1 h2 hp=>?_);simp only[wiC,Bool.and_eq_true,decide_eq_true_eq]at hp⊢;have m1:=classF_mono ls h1;have m2:=classF_mono ls h2;omega
def real_all(h:RealS ps xs):(realL ls xs (ls.length+1)).sum=(ps.length:Int):=by
 have e:(realL ls xs (ls.length+1)).sum=sumR ls xs 0 (ls.length+1):=by unfold sumR realL;simp
 rw[e,sumR_count, <-h.1];congr 1;refine List.countP_eq_length.2 λx _=>?_
 have :=classF_le ls x;simp;omega
def realN_rg(h:RealS ps xs)(c:Nat):0<=realN ls xs c∧realN ls xs c<=ps.length:=by unfold realN;have :=List.countP_le_length (p:= λx=>decide (classF ls x=c)) (l:=xs);have :=h.1;omega
def realL_len:(realL ls xs m).length=m:=by simp[realL]
def realL_at{c:Nat}(h:c<m):(realL ls xs m)[c]'(by rw[realL_len];exact h)=realN ls xs c:=by simp[realL]
end
end Go.Proofs
end
section
namespace Go.Proofs
open Go Go.RowKit Go.Maps
variable [Lo.St]
def sieveB(n:Int)(m:Nat)(sc:List jD):dO where
 dJ:=[⟨#[97,110,97]⟩]
 dz:=(List.range (m+1)).map nameP
 steps:=[⟨0,[],[0],n,n,0,0⟩,⟨0,[0],(List.range m).map λc=>((c+1:Nat):Int),0,0,0,0⟩]
 dA:=sc
def scOf(l:List (Int×Int)):List jD:=(List.range l.length).map λc=>⟨((c+1:Nat):Int),(l[c]?.getD (0,0)).1,(l[c]?.getD (0,0)).2⟩
def scOf_len{l:List (Int×Int)}:(scOf l).length=l.length:=by simp[scOf]
def scOf_mem{l:List (Int×Int)}{t:jD}(h:t∈scOf l):∃c,∃hc:c<l.length,t=⟨((c+1:Nat):Int),l[c].1,l[c].2⟩:=by unfold scOf at h;obtain⟨c,hc,rfl⟩:=List.mem_map.1 h;rw[List.mem_range]at hc;exact⟨c,hc,by rw[List.getElem?_eq_getElem hc];rfl⟩
section
variable {n:Int} {m:Nat} {l:List (Int×Int)}
def scalesF_mk{np:Nat}:∀{l:List jD},(∀t∈l,kH t.pile 0 ((np:Int)-1)=true∧eT t.lo t.hi 0 1000000=true)->ku np l=0
 | [],_=>rfl
 |t::r,h=>by obtain⟨h1,h2⟩:=h t List.mem_cons_self;unfold ku;rw[if_neg (by rw[h1];simp),if_neg (by rw[h2];simp)];exact scalesF_mk λu hu=>h u (List.mem_cons_of_mem _ hu)
def sieve_check(hm:1<=m∧m<=4)(hn:0<=n∧n<=20)(hl:l.length=m)(hs:∀x∈l,0<=x.1∧x.1<=x.2∧x.2<=1000000):fG (sieveB n m (scOf l))=0:=by
 have hsc:ku (m+1) (scOf l)=0:=scalesF_mk λt ht=>by obtain⟨c,hc,rfl⟩:=scOf_mem ht;have :=hs _ (List.getElem_mem hc);simp only[kH,eT,Bool.and_eq_true,decide_eq_true_eq];omega
 have h1:eT n n 0 1000000=true:=by simp only[eT,Bool.and_eq_true,decide_eq_true_eq];omega
 have h0:eT 0 0 0 1000000=true:=rfl;have hlen:(scOf l).length<=10:=by rw[scOf_len];omega
 unfold fG;rw[if_neg (show¬dP (sieveB n m (scOf l)).dJ 4≠0 fromλh=>h (by kernel_rfl))];rw[if_neg (show¬10<(sieveB n m (scOf l)).dA.length fromλh=>by have:10<(scOf l).length:=h;omega)];have e:(sieveB n m (scOf l)).dz.length=m+1:=by simp[sieveB]
 rw[e]
 have hp:dP (sieveB n m (scOf l)).dz 12=0:=by show dP ((List.range (m+1)).map nameP) 12=0;rcases(by omega:m=1∨m=2∨m=3∨m=4)with rfl|rfl|rfl|rfl<;>kernel_rfl
 have hst:fB (sieveB n m (scOf l))=0:=by unfold fB sieveB;simp only[List.length_cons,List.length_nil,List.length_map,List.length_range];rcases(by omega:m=1∨m=2∨m=3∨m=4)with rfl|rfl|rfl|rfl<;>simp[jr,oD,iX,kH,h1,h0,List.range_succ]
 rw[if_neg (by rw[hp];simp),if_neg (by rw[hst];simp)];exact hsc
def sieve_small(hm:1<=m∧m<=4)(hl:l.length=m):(sieveB n m (scOf l)).small where
 dJ:=by simp[sieveB]
 dz:=by simp[sieveB];omega
 steps:=by simp[sieveB]
 dA:=by show(scOf l).length<=64;rw[scOf_len];omega
 ins:= λs hs=>by simp[sieveB]at hs;rcases hs with rfl|rfl<;>simp
 outs:= λs hs=>by simp[sieveB]at hs;rcases hs with rfl|rfl<;>simp;omega
def sieve_done{cs:List Int}{sc:List jD}(hl:cs.length=m)(hn:0<=n∧n<=20)(hr:∀x∈cs,0<=x∧x<=20)(hs:cs.sum=n):Done (sieveB n m sc) (sieveB n m sc).steps.length (n::cs) [0,0] [n,0] where
 lm:=by simp[sieveB,hl]
 ll:=rfl
 lg:=rfl
 rg:= λx hx=>by
  rcases List.mem_cons.1 hx with rfl|hx
  .omega
  .have :=hr x hx;omega
 bal:= λj s hj h=>by
  have e0:sumAt (n::cs) [0]=n:=by simp[sumAt,msAt]
  have e1:sumAt (n::cs) ((List.range m).map λc=>((c+1:Nat):Int))=n:=by
   unfold sumAt;rw[List.map_map, <-hs];congr 1;apply List.ext_getElem
   .simp[hl]
   .intro i h1 h2;have h3:i<cs.length:=by simp at h1;omega
    simp[msAt,h3]
  rcases j with _|_|j
  .obtain rfl:_=s:=Option.some.inj h;exact⟨Int.le_refl _,Int.le_refl _,Int.le_refl _,Int.le_refl _,by show sumAt (n::cs) []+n=0+sumAt (n::cs) [0];rw[e0];simp[sumAt]⟩
  .obtain rfl:_=s:=Option.some.inj h;exact⟨Int.le_refl _,Int.le_refl _,Int.le_refl _,Int.le_refl _,by show sumAt (n::cs) [0]+0=0+sumAt (n::cs) ((List.range m).map λc=>((c+1:Nat):Int));rw[e0,e1];omega⟩
  .exact absurd hj (by simp[sieveB])
def bd_mono(p:Int):∀(l:List jD)(x:Int×Int),x.1<=(l.foldl (PU p) x).1∧(l.foldl (PU p) x).2<=x.2
 | [],x=>⟨Int.le_refl _,Int.le_refl _⟩
 |t::r,x=>by
  have h:=bd_mono p r (PU p x t);rw[List.foldl_cons];unfold PU at h⊢
  by_cases e:t.pile=p
  .rw[if_pos e]at h⊢;simp only at h;omega
  .rw[if_neg e]at h⊢;exact h
def bd_has{p:Int}{t:jD}(hp:t.pile=p):∀{l:List jD}(x:Int×Int),t∈l->t.lo<=(l.foldl (PU p) x).1∧(l.foldl (PU p) x).2<=t.hi
 | [],_,h=>by cases h
 |u::r,x,h=>by
  rw[List.foldl_cons];rcases List.mem_cons.1 h with rfl|h
  .have h2:=bd_mono p r (PU p x t);unfold PU at h2⊢;rw[if_pos hp]at h2⊢;simp only at h2;omega
  .exact bd_has hp _ h
def bd_none{p:Int}:∀{l:List jD}(x:Int×Int),(∀t∈l,t.pile≠p)->l.foldl (PU p) x=x
 | [],_,_=>rfl
 |u::r,x,h=>by rw[List.foldl_cons];unfold PU;rw[if_neg (h u List.mem_cons_self)];exact bd_none x λt ht=>h t (List.mem_cons_of_mem _ ht)
def sieve_strm{k:Nat}(h:k<=m)(sc:List jD):(fA (sieveB n m sc) (-1))[k]?=some (mh (sieveB n m sc) k):=by
 have e:(sieveB n m sc).dz.length=m+1:=by simp[sieveB]
 unfold fA;rw[e,List.getElem?_append_left (by simp[eG];omega),List.getElem?_append_left (by simp[eG];omega)];unfold eG;rw[List.getElem?_map,List.getElem?_range (by omega)];rfl
def sieve_box(hl:l.length=m){c:Nat}(hc:c<m):l[c].1<=lO9 (p8 (sieveB n m (scOf l))) (c+1)∧hI9 (p8 (sieveB n m (scOf l))) (c+1)<=l[c].2:=by
 have E:=ends_of (nd:=dZ (sieveB n m (scOf l)) (-1)) (sieve_strm (n:=n) (show c+1<=m by omega) (scOf l))
 have ht:(⟨((c+1:Nat):Int),l[c].1,l[c].2⟩:jD)∈scOf l:=by unfold scOf;exact List.mem_map.2 ⟨c,List.mem_range.2 (by omega),by rw[List.getElem?_eq_getElem (by omega)];rfl⟩
 have h:=bd_has rfl (0,1000000) ht;have h0:=E.l0;have h1:=E.h0;unfold mh at h0 h1;have e:je (sieveB n m (scOf l)).dA ((c+1:Nat):Int)=(scOf l).foldl (PU ((c+1:Nat):Int)) (0,1000000):=rfl;rw[e]at h0 h1;dsimp only at h0 h1 h;exact⟨Int.le_trans h.1 h0,Int.le_trans h1 h.2⟩
def sieve_top(hm:1<=m∧m<=4)(hl:l.length=m)(hr:lO9 (p8 (sieveB n m (scOf l))) 0<=n∧n<=hI9 (p8 (sieveB n m (scOf l))) 0):lO9 (p8 (sieveB n m (scOf l))) 0=n∧hI9 (p8 (sieveB n m (scOf l))) 0=n:=by
 have E:=ends_of (nd:=dZ (sieveB n m (scOf l)) (-1)) (sieve_strm (n:=n) (Nat.zero_le m) (scOf l))
 have hb:je (scOf l) ((0:Nat):Int)=(0,1000000):=bd_none _ λt ht=>by obtain⟨c,_,rfl⟩:=scOf_mem ht;simp only;omega
 have hp0:mh (sieveB n m (scOf l)) 0=⟨0,1000000,0,1⟩:=by have hb':je (sieveB n m (scOf l)).dA ((0:Nat):Int)=(0,1000000):=hb;unfold mh;rw[hb'];rcases(by omega:m=1∨m=2∨m=3∨m=4)with rfl|rfl|rfl|rfl<;>rfl
 have hps:∀s,kJ s 1 2=0->kJ s 2 1=0->gM (fA (sieveB n m (scOf l)) (-1)) s=OJ s (OJ s (OJ s 0 ⟨0,1000000,0,1⟩) ⟨n,n,2,0⟩) ⟨0,0,0,2⟩:= λs z1 z2=>by
  have hq:∀(x:eX)(a:Int),x.fr=1->x.to=2->OJ s a x=a:= λx a e1 e2=>by unfold OJ;rw[e1,e2,z1];simp
  have hq2:∀(x:eX)(a:Int),x.fr=2->x.to=1->OJ s a x=a:= λx a e1 e2=>by unfold OJ;rw[e1,e2,z2];simp
  have e:fA (sieveB n m (scOf l)) (-1)=(mh (sieveB n m (scOf l)) 0::((List.range m).map λc=>mh (sieveB n m (scOf l)) (c+1)))++ [⟨n,n,2,0⟩,⟨0,0,0,2⟩,⟨0,0,2,1⟩,⟨0,0,1,2⟩]:=by rcases(by omega:m=1∨m=2∨m=3∨m=4)with rfl|rfl|rfl|rfl<;>rfl
  have hk:∀(L:List eX)(a:Int),(∀x∈L,x.fr=1∧x.to=2)->L.foldl (OJ s) a=a:= λL=>by
   induction L with
   |nil=>intro a _;rfl
   |cons x L ih=>
    intro a h;rw[List.foldl_cons,hq x a (h x List.mem_cons_self).1 (h x List.mem_cons_self).2];exact ih a λy hy=>h y (List.mem_cons_of_mem _ hy)
  have hL:∀x∈(List.range m).map λc=>mh (sieveB n m (scOf l)) (c+1),x.fr=1∧x.to=2:= λx hx=>by obtain⟨c,hc,rfl⟩:=List.mem_map.1 hx;rw[List.mem_range]at hc;rcases(by omega:m=1∨m=2∨m=3∨m=4)with rfl|rfl|rfl|rfl<;>(rcases(by omega:c=0∨c=1∨c=2∨c=3)with rfl|rfl|rfl|rfl<;>first|exact⟨rfl,rfl⟩|omega)
  unfold gM;rw[e,List.foldl_append];simp only[List.foldl_cons,List.foldl_nil];rw[hk _ _ hL,hp0,hq ⟨0,0,1,2⟩ _ rfl rfl,hq2 ⟨0,0,2,1⟩ _ rfl rfl]
 rw[hp0]at E;have nd:dZ (sieveB n m (scOf l)) (-1)=3:=rfl;have s6:=hps 6 rfl rfl;have s1:=hps 1 rfl rfl;have ξW:=E.l1 6 (by rw[nd];decide) rfl;have h1:=E.h1 1 (by rw[nd];decide) rfl;rw[s6]at ξW;rw[s1]at h1
 have l6':n<=lO9 (p8 (sieveB n m (scOf l))) 0:=by
  refine Int.le_trans ?_ ξW
  simp[OJ,kJ,bit];omega
 have h1':hI9 (p8 (sieveB n m (scOf l))) 0<=n:=by
  refine Int.le_trans h1 ?_
  simp[OJ,kJ,bit]
 omega
def sieve_fit{cs:List Int}(hl:l.length=m)(hc:cs.length=m)(h:∀c(h1:c<l.length)(h2:c<cs.length),l[c].1<=cs[c]∧cs[c]<=l[c].2):FitAll (n::cs) (scOf l):= λt ht=>by
 obtain⟨c,hcl,rfl⟩:=scOf_mem ht;have :=h c hcl (by omega)
 have e:msAt (n::cs) ((c+1:Nat):Int)=cs[c]:=by unfold msAt;rw[Int.toNat_natCast];simp[show c<cs.length by omega]
 simp only;rw[e];exact this
section
variable {cs:List Int} (hm:1<=m∧m<=4) (hn:0<=n∧n<=20) (hl:l.length=m) (hx:∀x∈l,0<=x.1∧x.1<=x.2∧x.2<=1000000) (hc:cs.length=m) (hr:∀x∈cs,0<=x∧x<=20) (hs:cs.sum=n) (hf:FitAll (n::cs) (scOf l))
include cs hm hn hl hx hc hr hs hf
theorem sieve_holds:qR (sieveB n m (scOf l))=true:=
 real_web (sieve_check hm hn hl hx) (sieve_done hc hn hr hs) hf (by simp[sieveB]) (by omega)
theorem sieve_mass{c:Nat}(h:c<cs.length):lO9 (p8 (sieveB n m (scOf l))) (c+1)<=cs[c]∧cs[c]<=hI9 (p8 (sieveB n m (scOf l))) (c+1):=by
 have k:=real_mass (sieve_check hm hn hl hx) (sieve_done hc hn hr hs) hf (by simp[sieveB]) (k:=c+1) (by simp[sieveB];omega)
 have e:msAt (n::cs) ((c+1:Nat):Int)=cs[c]:=by unfold msAt;rw[Int.toNat_natCast];simp[h]
 rwa [e]at k
theorem sieve_mass0:lO9 (p8 (sieveB n m (scOf l))) 0=n∧hI9 (p8 (sieveB n m (scOf l))) 0=n:=by have k:=real_mass (sieve_check hm hn hl hx) (sieve_done hc hn hr hs) hf (by simp[sieveB]) (k:=0) (by simp[sieveB]);have e:msAt (n::cs) ((0:Nat):Int)=n:=rfl;rw[e]at k;exact sieve_top hm hl k
end
end
end Go.Proofs
end
section
namespace Go.Proofs
open Go Go.RowKit Go.Maps
def cells3(l:List jD):List Value:=l.flatMap λx=>[.int .i64 x.pile,.int .i64 x.lo,.int .i64 x.hi]
def cells3_get(l:List jD){i j:Nat}(hi:i<l.length)(hj:j<3):(cells3 l)[i*3+j]?=some (vD l i j):=by
 induction l generalizing i with
 |nil=>exact absurd hi (Nat.not_lt_zero _)
 |cons x l ih=>
  unfold cells3;simp only[List.flatMap_cons];rcases i with _|i
  .obtain rfl|rfl|rfl:j=0∨j=1∨j=2:=by omega
   all_goals rfl
  .rw[List.getElem?_append_right (by simp;omega),show(i+1)*3+j - [Value.int .i64 x.pile,.int .i64 x.lo,.int .i64 x.hi].length=i*3+j from by simp;omega];exact ih (by simpa using hi)
def cells3_app(l r:List jD):cells3 l++cells3 r=cells3 (l++r):=by unfold cells3;rw[List.flatMap_append]
def ints1(k:Nat):List Value:=(List.range k).map λc=>.int .i64 ((c+1:Nat):Int)
def bookO(hb sb:Nat)(vp vs:Value):Obj:=.cells #[.slice (some ⟨hb,0,none⟩) 1 1,vp,.slice (some ⟨sb,0,none⟩) 2 2,vs] 40
def stepsO(n:Int)(o1 i2:Nat)(νv:Value):Obj:=.cells #[.int .i64 0,.slice none 0 0,.slice (some ⟨o1,0,none⟩) 1 1,.int .i64 n,.int .i64 n,.int .i64 0,.int .i64 0,.int .i64 0,.slice (some ⟨i2,0,none⟩) 1 1,νv,.int .i64 0,.int .i64 0,.int .i64 0,.int .i64 0] 36
structure SvI(κn bb sb hb o1 i2:Nat)(vp:Value)(n:Int)(m:Nat)(l:List (Int×Int))(W:World)(ko:Nat)(νv:Value)(ks:Nat)(vs:Value)(rs:List Int)(vr:Value):Prop where
 box:W.heap[bb]?=some (bookO hb sb vp vs)
 stp:W.heap[sb]?=some (stepsO n o1 i2 νv)
 hnd:W.heap[hb]?=some (.cells #[.string ⟨#[97,110,97]⟩] 9)
 ot1:W.heap[o1]?=some (.cells #[.int .i64 0] 3)
 in2:W.heap[i2]?=some (.cells #[.int .i64 0] 3)
 lt:bb<κn∧sb<κn∧hb<κn∧o1<κn∧i2<κn∧bb≠sb∧κn<=W.heap.size
 np:W.ownsRow 0 9 1 vp (m+1) (namesV (m+1))
 nb:∀g,vp.ownBlock=some g->g<κn∧g≠bb∧g≠sb
 ro:W.ownsRow κn 3 1 νv ko (ints1 ko)
 rw:W.ownsRow κn 42 3 vs ks (cells3 ((scOf l).take ks))
 rr:W.ownsRow κn 3 1 vr rs.length (rs.map λx=>.int .i64 x)
 o0:ko=0->νv.ownBlock=none
 r0:rs= []->vr.ownBlock=none
section
variable {κn bb sb hb o1 i2:Nat} {vp:Value} {n:Int} {m:Nat} {l:List (Int×Int)} {W W':World} {ko ks:Nat} {νv vs vr:Value} {rs:List Int}
def row_at{w:World}{b s n:Nat}{e:TypeId}{v:Value}{x:List Value}(h:w.ownsRow b e s v (n+1) x):∃g cap,v=.slice (some ⟨g,0,none⟩) (n+1) cap∧b<=g∧g<w.heap.size∧n+1<=cap:=by
 rcases h.2 with⟨_,h0⟩|⟨g,cap,cur,e,hb,hc,hn,_⟩
 .cases h0
 .exact⟨g,cap,e,hb,(Array.getElem?_eq_some_iff.1 hc).1,hn⟩
def row_ty{w:World}{b1 b2 s1 s2 n1 n2:Nat}{e1 e2:TypeId}{v1 v2:Value}{x1 x2:List Value}(h1:w.ownsRow b1 e1 s1 v1 n1 x1)(h2:w.ownsRow b2 e2 s2 v2 n2 x2)(he:e1≠e2):v1.ownBlock=none∨v1.ownBlock≠v2.ownBlock:=by
 cases e:v1.ownBlock with
 |none=>exact .inl rfl
 |some g=>
  refine .inr λe3=>?_
  obtain⟨c,fz,hc⟩:=Lib.ownsRow_kind h1 g e;obtain⟨c2,fz2,hc2⟩:=Lib.ownsRow_kind h2 g e3.symm;rw[hc]at hc2;cases hc2;exact he rfl
def row_val{w:World}{b1 b2 n1 n2:Nat}{e:TypeId}{v1 v2 x y:Value}{x1 x2:List Value}(h1:w.ownsRow b1 e 1 v1 n1 (x::x1))(h2:w.ownsRow b2 e 1 v2 n2 (y::x2))(he:x≠y):v1.ownBlock=none∨v1.ownBlock≠v2.ownBlock:=by
 cases e1:v1.ownBlock with
 |none=>exact .inl rfl
 |some g=>
  refine .inr λe3=>he ?_
  have c1:=h1.cells e1 0 x rfl;have c2:=h2.cells e3.symm 0 y rfl;rw[c1]at c2;exact Option.some.inj c2
def row_off{w:World}{b1 s1 n1:Nat}{e1:TypeId}{v1:Value}{x1:List Value}(h1:w.ownsRow b1 e1 s1 v1 n1 x1){b:Nat}(h:b<b1):some b≠v1.ownBlock:= λe=>by have :=(h1.lt b e.symm).1;omega
def np_off(h:SvI κn bb sb hb o1 i2 vp n m l W ko νv ks vs rs vr){v:Value}{e s q:Nat}{x:List Value}(hr:W.ownsRow κn e s v q x):vp.ownBlock=none∨vp.ownBlock≠v.ownBlock:=by
 cases e1:vp.ownBlock with
 |none=>exact .inl rfl
 |some g=>exact .inr (row_off hr (h.nb g e1).1)
def SvI.drew(h:SvI κn bb sb hb o1 i2 vp n m l W ko νv ks vs rs vr):SvI κn bb sb hb o1 i2 vp n m l W.drew ko νv ks vs rs vr:=
 ⟨h.box,h.stp,h.hnd,h.ot1,h.in2,h.lt,h.np.drew,h.nb,h.ro.drew,h.rw.drew,h.rr.drew,h.o0,h.r0⟩
def SvI.alloc(h:SvI κn bb sb hb o1 i2 vp n m l W ko νv ks vs rs vr)(o:Obj):SvI κn bb sb hb o1 i2 vp n m l (W.alloc o) ko νv ks vs rs vr:=by
 have k:∀b,b<κn->(W.alloc o).heap[b]?=W.heap[b]?:= λb hb=>Below.heap_alloc _ _ _ (by have :=h.lt;omega)
 have hl:=h.lt;exact⟨(k _ (by omega)).trans h.box,(k _ (by omega)).trans h.stp,(k _ (by omega)).trans h.hnd,(k _ (by omega)).trans h.ot1,(k _ (by omega)).trans h.in2,⟨hl.1,hl.2.1,hl.2.2.1,hl.2.2.2.1,hl.2.2.2.2.1,hl.2.2.2.2.2.1,by rw[World.size_alloc];omega⟩,h.np.alloc _,h.nb,h.ro.alloc _,h.rw.alloc _,h.rr.alloc _,h.o0,h.r0⟩
def SvI.fix(h:SvI κn bb sb hb o1 i2 vp n m l W ko νv ks vs rs vr){v:Value}{e s q:Nat}{x:List Value}(hr:W.ownsRow κn e s v q x)(hg:W.grownBy W' v.ownBlock):(∀b,b<κn->W'.heap[b]?=W.heap[b]?)∧W'.ownsRow 0 9 1 vp (m+1) (namesV (m+1))∧κn<=W'.heap.size:=
 ⟨λb hb=>hg.block b (by have :=h.lt;omega) (row_off hr hb),h.np.kept hg (np_off h hr),by have :=hg.size;have :=h.lt;omega⟩
def ints1_cons(k:Nat):ints1 (k+1)=.int .i64 1::(List.range k).map λc=>.int .i64 ((c+1+1:Nat):Int):=by unfold ints1;rw[List.range_succ_eq_map,List.map_cons,List.map_map];rfl
def ints1_succ(k:Nat):ints1 (k+1)=ints1 k++ [.int .i64 ((k+1:Nat):Int)]:=by simp[ints1,List.range_succ]
def SvI.apart(h:SvI κn bb sb hb o1 i2 vp n m l W ko νv ks vs rs vr)(hz:∀x∈rs,x=0):vr.ownBlock=none∨vr.ownBlock≠νv.ownBlock:=by
 rcases ko with _|k
 .rw[h.o0 rfl];cases e:vr.ownBlock with
  |none=>exact .inl rfl
  |some g=>exact .inr (by simp)
 .rcases rs with _|⟨x,r⟩
  .exact .inl (h.r0 rfl)
  .have h1:=h.ro;rw[ints1_cons]at h1;have hx:=hz x List.mem_cons_self;subst hx;exact row_val h.rr h1 (by simp)
def set_bk{w:World}{g b o:Nat}{v:Value}(h:g≠b):(w.setCell ⟨b,o,none⟩ v).heap[g]?=w.heap[g]?:=Below.heap_setCell w ⟨b,o,none⟩ v g h
def row_set{w:World}{b1 s1 n1 b o:Nat}{e1:TypeId}{v1 v:Value}{x1:List Value}(h1:w.ownsRow b1 e1 s1 v1 n1 x1)(h:v1.ownBlock≠some b):(w.setCell ⟨b,o,none⟩ v).ownsRow b1 e1 s1 v1 n1 x1:=
 h1.kept (lK w b o v) (.inr h)
def row_low{w:World}{b1 s1 n1 b:Nat}{e1:TypeId}{v1:Value}{x1:List Value}(h1:w.ownsRow b1 e1 s1 v1 n1 x1)(h:b<b1):v1.ownBlock≠some b:= λe=>row_off h1 h e.symm
section
variable (h:SvI κn bb sb hb o1 i2 vp n m l W ko νv ks vs rs vr)
include h
theorem SvI.out(hz:∀x∈rs,x=0){vo':Value}(h1:W'.ownsRow κn 3 1 vo' (ko+1) (ints1 (ko+1)))(hg:W.grownBy W' νv.ownBlock):SvI κn bb sb hb o1 i2 vp n m l (W'.setCell ⟨sb,9,none⟩ vo') (ko+1) vo' ks vs rs vr:=by
 obtain⟨f1,f2,f3⟩:=h.fix h.ro hg;obtain⟨l1,l2,l3,l4,l5,ξW,μu⟩:=h.lt;have hs:=(f1 sb l2).trans h.stp;have rw':=h.rw.kept hg (row_ty h.rw h.ro (by decide));have rr':=h.rr.kept hg (h.apart hz);have hh:hb≠sb:= λe=>by subst e;have :=h.hnd;rw[h.stp]at this;cases this
 have ho:o1≠sb:= λe=>by subst e;have :=h.ot1;rw[h.stp]at this;cases this
 have hi:i2≠sb:= λe=>by subst e;have :=h.in2;rw[h.stp]at this;cases this
 refine⟨(set_bk ξW).trans ((f1 bb l1).trans h.box),?_,(set_bk hh).trans ((f1 _ l3).trans h.hnd),(set_bk ho).trans ((f1 _ l4).trans h.ot1),(set_bk hi).trans ((f1 _ l5).trans h.in2),⟨l1,l2,l3,l4,l5,ξW,by simpa[World.setCell]using f3⟩,row_set f2 (λe=>(h.nb _ e).2.2 rfl),h.nb,row_set h1 (row_low h1 l2),row_set rw' (row_low rw' l2),row_set rr' (row_low rr' l2), λe=>by omega,h.r0⟩;unfold stepsO at hs⊢;rw[heap_setCell_same W' sb 9 _ _ _ hs];rfl
theorem SvI.scl{vs':Value}(h1:W'.ownsRow κn 42 3 vs' (ks+1) (cells3 ((scOf l).take (ks+1))))(hg:W.grownBy W' vs.ownBlock):SvI κn bb sb hb o1 i2 vp n m l (W'.setCell ⟨bb,3,none⟩ vs') ko νv (ks+1) vs' rs vr:=by
 obtain⟨f1,f2,f3⟩:=h.fix h.rw hg;obtain⟨l1,l2,l3,l4,l5,ξW,μu⟩:=h.lt;have hs:=(f1 bb l1).trans h.box;have ro':=h.ro.kept hg (row_ty h.ro h.rw (by decide));have rr':=h.rr.kept hg (row_ty h.rr h.rw (by decide));have hh:hb≠bb:= λe=>by subst e;have :=h.hnd;rw[h.box]at this;cases this
 have ho:o1≠bb:= λe=>by subst e;have :=h.ot1;rw[h.box]at this;cases this
 have hi:i2≠bb:= λe=>by subst e;have :=h.in2;rw[h.box]at this;cases this
 refine⟨?_,(set_bk ξW.symm).trans ((f1 _ l2).trans h.stp),(set_bk hh).trans ((f1 _ l3).trans h.hnd),(set_bk ho).trans ((f1 _ l4).trans h.ot1),(set_bk hi).trans ((f1 _ l5).trans h.in2),⟨l1,l2,l3,l4,l5,ξW,by simpa[World.setCell]using f3⟩,row_set f2 (λe=>(h.nb _ e).2.1 rfl),h.nb,row_set ro' (row_low ro' l1),row_set h1 (row_low h1 l1),row_set rr' (row_low rr' l1),h.o0,h.r0⟩;unfold bookO at hs⊢;rw[heap_setCell_same W' bb 3 _ _ _ hs];rfl
end
def SvI.real(h:SvI κn bb sb hb o1 i2 vp n m l W (ko+1) νv ks vs rs vr)(hz:∀x∈rs,x=0){vr':Value}(h1:W'.ownsRow κn 3 1 vr' (rs.length+1) ((rs++ [0]).map λx=>.int .i64 x))(hg:W.grownBy W' vr.ownBlock):SvI κn bb sb hb o1 i2 vp n m l W' (ko+1) νv ks vs (rs++ [0]) vr':=by
 obtain⟨f1,f2,f3⟩:=h.fix h.rr hg;obtain⟨l1,l2,l3,l4,l5,ξW,μu⟩:=h.lt
 have hne:νv.ownBlock=none∨νv.ownBlock≠vr.ownBlock:=by
  rcases h.apart hz with e|e
  .rw[e];cases e2:νv.ownBlock with
   |none=>exact .inl rfl
   |some g=>exact .inr (by simp)
  .exact .inr e.symm
 exact⟨(f1 _ l1).trans h.box,(f1 _ l2).trans h.stp,(f1 _ l3).trans h.hnd,(f1 _ l4).trans h.ot1,(f1 _ l5).trans h.in2,⟨l1,l2,l3,l4,l5,ξW,f3⟩,f2,h.nb,h.ro.kept hg hne,h.rw.kept hg (row_ty h.rw h.rr (by decide)),by rw[List.length_append];exact h1, λe=>by omega, λe=>by simp at e⟩
end
end Go.Proofs
end
section
namespace Go.Proofs
open Go Go.RowKit Go.Maps
def row_put{w:World}{b n g cap c:Nat}{e:TypeId}{xs:List Value}(h:w.ownsRow b e 1 (.slice (some ⟨g,0,none⟩) n cap) n xs)(hc:c<n)(v:Value):(w.setCell ⟨g,c,none⟩ v).ownsRow b e 1 (.slice (some ⟨g,0,none⟩) n cap) n (xs.set c v):=by
 obtain⟨h1,h2⟩:=h;refine⟨by simpa using h1,.inr ?_⟩;rcases h2 with⟨h0,_⟩|⟨g',cap',cur,e1,hb,hg,hn,hm,hz,ht⟩
 .cases h0
 .cases e1;refine⟨g,cap,cur.setIfInBounds c v,rfl,hb,?_,hn,hm,by simpa using hz,?_⟩
  .rw[heap_setCell_same w g c _ _ _ hg]
  .rw[Array.toList_setIfInBounds,List.take_set,ht]
def Rd.up{w:World}{B B' size n:Nat}{A:Option Addr}{f:Nat->Nat->Value}(h:Rd w B size A n f)(hB:B<=B'):Rd w B' size A n f:= λhn=>by obtain⟨b,off,e,h1,h2⟩:=h hn;exact⟨b,off,e,by omega,h2⟩
def row_rd{w:World}{b s n g cap:Nat}{e:TypeId}{xs:List Value}{f:Nat->Nat->Value}(h:w.ownsRow b e s (.slice (some ⟨g,0,none⟩) n cap) n xs)(hf:∀i j,i<n->j<s->xs[i*s+j]?=some (f i j)):Rd w w.heap.size s (some ⟨g,0,none⟩) n f:= λhn=>by refine⟨g,0,rfl,(h.lt g rfl).2, λi j hi hj=>?_⟩;have :=h.cells rfl (i*s+j) _ (hf i j hi hj);rw[<-this,show(⟨g,0,none⟩:Addr).add (i*s+j)=⟨g,0+(i*s+j),none⟩from by unfold Addr.add;split<;>simp_all]
section
variable {κn bb sb hb o1 i2:Nat} {vp:Value} {n:Int} {m:Nat} {l:List (Int×Int)} {W W':World} {ko ks:Nat} {νv vs vr:Value} {rs:List Int}
def SvI.below(h:SvI κn bb sb hb o1 i2 vp n m l W ko νv ks vs rs vr)(hw:Below W.heap.size W W'):SvI κn bb sb hb o1 i2 vp n m l W' ko νv ks vs rs vr:=by
 obtain⟨l1,l2,l3,l4,l5,ξW,μu⟩:=h.lt;have k:∀b,b<κn->W'.heap[b]?=W.heap[b]?:= λb hb=>hw.block b (by omega)
 exact⟨(k _ l1).trans h.box,(k _ l2).trans h.stp,(k _ l3).trans h.hnd,(k _ l4).trans h.ot1,(k _ l5).trans h.in2,⟨l1,l2,l3,l4,l5,ξW,by have :=hw.size;omega⟩,ownsRow.below h.np hw,h.nb,ownsRow.below h.ro hw,ownsRow.below h.rw hw,ownsRow.below h.rr hw,h.o0,h.r0⟩
def SvI.put{gr cr c:Nat}{z:Int}(h:SvI κn bb sb hb o1 i2 vp n m l W ko νv ks vs rs (.slice (some ⟨gr,0,none⟩) rs.length cr))(ho:νv.ownBlock≠some gr)(hs:vs.ownBlock≠some gr)(hc:c<rs.length):SvI κn bb sb hb o1 i2 vp n m l (W.setCell ⟨gr,c,none⟩ (.int .i64 z)) ko νv ks vs (rs.set c z) (.slice (some ⟨gr,0,none⟩) rs.length cr):=by
 obtain⟨l1,l2,l3,l4,l5,ξW,μu⟩:=h.lt;have hg:=(h.rr.lt gr rfl).1;have k:∀b,b<κn->(W.setCell ⟨gr,c,none⟩ (.int .i64 z)).heap[b]?=W.heap[b]?:= λb hb=>set_bk (by omega)
 refine⟨(k _ l1).trans h.box,(k _ l2).trans h.stp,(k _ l3).trans h.hnd,(k _ l4).trans h.ot1,(k _ l5).trans h.in2,⟨l1,l2,l3,l4,l5,ξW,by simpa[World.setCell]using μu⟩,row_set h.np (λe=>by have :=(h.nb _ e).1;omega),h.nb,row_set h.ro ho,row_set h.rw hs,?_,h.o0, λe=>by rw[List.set_eq_nil_iff]at e;subst e;simp at hc⟩;have :=row_put h.rr hc (.int .i64 z);rw[List.length_set,List.map_set];exact this
end
def cells3_set:∀(S:List jD)(k:Nat)(t:jD)(h:k<S.length),S[k].pile=t.pile->cells3 (S.set k t)=((cells3 S).set (k*3+1) (.int .i64 t.lo)).set (k*3+1+1) (.int .i64 t.hi)
 |x::S,0,t,h,e=>by have e':x.pile=t.pile:=e;simp[cells3,e']
 |x::S,k+1,t,h,e=>by have ih:=cells3_set S k t (by simpa using h) e;show .int .i64 x.pile:: .int .i64 x.lo:: .int .i64 x.hi::cells3 (S.set k t)=_;rw[ih,show(k+1)*3+1=(k*3+1)+1+1+1 by omega];rfl
def scOf_set{l:List (Int×Int)}{k:Nat}(h:k<l.length)(p:Int×Int):scOf (l.set k p)=(scOf l).set k ⟨((k+1:Nat):Int),p.1,p.2⟩:=by
 apply List.ext_getElem
 .simp[scOf]
 .intro i h1 h2;have hi:i<l.length:=by simpa[scOf]using h1
  rw[List.getElem_set]
  by_cases e:k=i
  .subst e;simp[scOf,h]
  .rw[if_neg e];simp[scOf,List.getElem?_set_ne e]
def row_put3{w:World}{b s n g cap c:Nat}{e:TypeId}{xs:List Value}(h:w.ownsRow b e s (.slice (some ⟨g,0,none⟩) n cap) n xs)(hc:c<n*s)(v:Value):(w.setCell ⟨g,c,none⟩ v).ownsRow b e s (.slice (some ⟨g,0,none⟩) n cap) n (xs.set c v):=by
 obtain⟨h1,h2⟩:=h;refine⟨by simpa using h1,.inr ?_⟩;rcases h2 with⟨h0,_⟩|⟨g',cap',cur,e1,hb,hg,hn,hm,hz,ht⟩
 .cases h0
 .cases e1;refine⟨g,cap,cur.setIfInBounds c v,rfl,hb,?_,hn,hm,by simpa using hz,?_⟩
  .rw[heap_setCell_same w g c _ _ _ hg]
  .rw[Array.toList_setIfInBounds,List.take_set,ht]
section
variable [Lo.St]
def SvI.fixS{κn bb sb hb o1 i2 gs cs k:Nat}{vp:Value}{n z:Int}{m:Nat}{l:List (Int×Int)}{W:World}{ko:Nat}{νv vr:Value}{rs:List Int}(h:SvI κn bb sb hb o1 i2 vp n m l W ko νv m (.slice (some ⟨gs,0,none⟩) m cs) rs vr)(hl:l.length=m)(hk:k<m)(ho:νv.ownBlock≠some gs)(hr:vr.ownBlock≠some gs):
 SvI κn bb sb hb o1 i2 vp n m (l.set k (z,z)) ((W.setCell ⟨gs,k*3+1,none⟩ (.int .i64 z)).setCell ⟨gs,k*3+1+1,none⟩ (.int .i64 z)) ko νv m (.slice (some ⟨gs,0,none⟩) m cs) rs vr:=by
 obtain⟨l1,l2,l3,l4,l5,ξW,μu⟩:=h.lt;have hg:=(h.rw.lt gs rfl).1;have kk:∀b,b<κn->((W.setCell ⟨gs,k*3+1,none⟩ (.int .i64 z)).setCell ⟨gs,k*3+1+1,none⟩ (.int .i64 z)).heap[b]?=W.heap[b]?:= λb hb=>(set_bk (by omega)).trans (set_bk (by omega))
 have hn:∀g,vp.ownBlock=some g->g≠gs:= λg e=>by have :=(h.nb g e).1;omega
 have t1:(scOf l).take m=scOf l:=List.take_of_length_le (by rw[scOf_len];omega);have t2:(scOf (l.set k (z,z))).take m=scOf (l.set k (z,z)):=List.take_of_length_le (by rw[scOf_len];simp;omega);refine⟨(kk _ l1).trans h.box,(kk _ l2).trans h.stp,(kk _ l3).trans h.hnd,(kk _ l4).trans h.ot1,(kk _ l5).trans h.in2,⟨l1,l2,l3,l4,l5,ξW,by simpa[World.setCell]using μu⟩,row_set (row_set h.np (λe=>hn _ e rfl)) (λe=>hn _ e rfl),h.nb,row_set (row_set h.ro ho) ho,?_,row_set (row_set h.rr hr) hr,h.o0,h.r0⟩;have hw:=h.rw;rw[t1]at hw;rw[t2,scOf_set (by omega),cells3_set _ _ _ (by rw[scOf_len];omega) (by simp[scOf])];exact row_put3 (row_put3 hw (by omega) _) (by omega) _
end
def sieveV(hb gn cn sb gs cs o1 i2 go co:Nat):gJ:=⟨some ⟨hb,0,none⟩,1,some ⟨gn,0,none⟩,cn,some ⟨sb,0,none⟩,2,some ⟨gs,0,none⟩,cs, λi=>if i=0 then⟨none,0,some ⟨o1,0,none⟩,1⟩else⟨some ⟨i2,0,none⟩,1,some ⟨go,0,none⟩,co⟩⟩
variable [Lo.St]
def SvI.book{κn bb sb hb o1 i2 gn cn gs cs go co:Nat}{n:Int}{m:Nat}{l:List (Int×Int)}{W:World}{rs:List Int}{vr:Value}(hl:l.length=m)(hcn:m+1<=cn)(hcs:m<=cs)
 (h:SvI κn bb sb hb o1 i2 (.slice (some ⟨gn,0,none⟩) (m+1) cn) n m l W m (.slice (some ⟨go,0,none⟩) m co) m (.slice (some ⟨gs,0,none⟩) m cs) rs vr):fC W W.heap.size (sieveB n m (scOf l)) (sieveV hb gn cn sb gs cs o1 i2 go co):=by
 obtain⟨l1,l2,l3,l4,l5,ξW,μu⟩:=h.lt;have hts:(scOf l).take m=scOf l:=List.take_of_length_le (by rw[scOf_len];omega);have hrw:=h.rw;rw[hts]at hrw
 have hone:∀{b:Nat},b<κn->W.heap[b]?=some (.cells #[.int .i64 0] 3)->xJ W W.heap.size (some ⟨b,0,none⟩) [0]:= λhb h=> λ_=>⟨_,0,rfl,by omega, λi j hi hj=>by
  obtain rfl:i=0:=by simpa using hi
  obtain rfl:j=0:=by omega
  exact cell_of h 0⟩
 refine⟨λ_=>⟨hb,0,rfl,by omega, λi j hi hj=>?_⟩,?_, λ_=>⟨sb,0,rfl,by omega, λi j hi hj=>?_⟩, λi s hs=>?_, λi s hs=>?_,?_,Nat.le_refl _,?_,Nat.le_refl _,?_⟩
 .obtain rfl:i=0:=by simpa[sieveB]using hi
  obtain rfl:j=0:=by omega
  exact cell_of h.hnd 0
 .have e:(sieveB n m (scOf l)).dz.length=m+1:=by simp[sieveB]
  show Rd _ _ _ _ (sieveB n m (scOf l)).dz.length _;rw[e];refine row_rd h.np λi j hi hj=>?_
  obtain rfl:j=0:=by omega
  simp[namesV,sieveB,hi]
 .have hi2:i=0∨i=1:=by have:i<2:=hi;omega
  have hs:=h.stp;rcases hi2 with rfl|rfl
  .rcases(by omega:j=0∨j=1∨j=2∨j=3∨j=4∨j=5∨j=6)with rfl|rfl|rfl|rfl|rfl|rfl|rfl
   .exact cell_of hs 0
   .exact cell_of hs 1
   .exact cell_of hs 2
   .exact cell_of hs 3
   .exact cell_of hs 4
   .exact cell_of hs 5
   .exact cell_of hs 6
  .have hm:((List.range m).map λc=>((c+1:Nat):Int)).length=m:=by simp
   rcases(by omega:j=0∨j=1∨j=2∨j=3∨j=4∨j=5∨j=6)with rfl|rfl|rfl|rfl|rfl|rfl|rfl
   .exact cell_of hs 7
   .exact cell_of hs 8
   .refine(cell_of hs 9).trans ?_
    show some (Value.slice (some ⟨go,0,none⟩) m co)=some (.slice (some ⟨go,0,none⟩) ((List.range m).map λc=>((c+1:Nat):Int)).length co);rw[hm]
   .exact cell_of hs 10
   .exact cell_of hs 11
   .exact cell_of hs 12
   .exact cell_of hs 13
 .rcases i with _|_|i
  .obtain rfl:_=s:=Option.some.inj hs;exactλhn=>absurd hn (Nat.lt_irrefl 0)
  .obtain rfl:_=s:=Option.some.inj hs;exact hone l5 h.in2
  .simp[sieveB]at hs
 .rcases i with _|_|i
  .obtain rfl:_=s:=Option.some.inj hs;exact hone l4 h.ot1
  .obtain rfl:_=s:=Option.some.inj hs;show Rd _ _ _ _ ((List.range m).map λc=>((c+1:Nat):Int)).length _;have hm:((List.range m).map λc=>((c+1:Nat):Int)).length=m:=by simp
   rw[hm];refine row_rd h.ro λi j hi hj=>?_
   obtain rfl:j=0:=by omega
   simp[ints1,hi]
  .simp[sieveB]at hs
 .show Rd _ _ _ _ (scOf l).length _;rw[scOf_len,hl];exact row_rd hrw λi j hi hj=>cells3_get _ (by rw[scOf_len];omega) hj
 .show(sieveB n m (scOf l)).dz.length<=cn;simp[sieveB];omega
 .show(scOf l).length<=cs;rw[scOf_len];omega
def realL_snoc{ls xs:List Int}{x:Int}{m:Nat}:realL ls (xs++ [x]) m=(realL ls xs m).set (classF ls x) (realN ls xs (classF ls x)+1):=by
 apply List.ext_getElem
 .simp[realL]
 .intro i h1 h2;rw[List.getElem_set];simp only[realL,List.getElem_map,List.getElem_range,realN,List.countP_append,List.countP_cons,List.countP_nil]
  by_cases e:classF ls x=i
  .subst e;simp
  .simp[e]
def real_snoc{ps:List (Int×Int)}{xs:List Int}{k:Nat}{x:Int}(h:RealS (ps.take k) xs)(hk:k<ps.length)(hx:ps[k].1<=x∧x<=ps[k].2):RealS (ps.take (k+1)) (xs++ [x]):=by
 have hl:xs.length=k:=by rw[h.1,List.length_take];omega
 refine⟨by simp[hl];omega, λi h1 h2=>?_⟩
 by_cases e:i=k
 .subst e;simp[hl];exact hx
 .have hi:i<k:=by rw[List.length_take]at h1;omega
  have :=h.2 i (by rw[List.length_take];omega) (by omega);rw[List.getElem_append_left (by omega)];simpa using this
end Go.Proofs
end
section
namespace Go.Proofs
open Go Go.RowKit Go.Maps
variable [Lo.St]
def Lo.masses_own{w:World}{B:Nat}{b:dO}{v:gJ}{x:Value}(hx:x=dY b v)(hb:fC w B b v)(hB:B<=w.heap.size)(hs:b.small)(hcf:fG b=0)(hho:qR b=true)(hp:0<b.dz.length):
 Calls Lo.prog 11 #[x] w λe w'=>Below w.heap.size w w'∧∃g cap,e=.returned (.tuple #[.slice (some ⟨g,0,none⟩) b.dz.length cap,.int .i64 0])∧w.heap.size<=g∧g<w'.heap.size∧∀i j,i<b.dz.length->j<2->w'.cell? ⟨g,i*2+j,none⟩=some (.int .i64 (((p8 b)[2*i+j]?).getD 0)):=by
 obtain⟨U,U2,U3,U4,U5,U6⟩:=Lo.facts;have C:=Lo.call Tryz.func26;have C2:=Lo.call Tryz.func27;subst hx;obtain⟨X,hX,sX,bX,hA,hC⟩:=cT hb hB;have HC:=Lib.hid hC;have HA:=Lib.hid hA;have HX:=Lib.hid (And.intro hX bX);clear hX bX hA hC hb;show Calls Lo.prog 11 #[Value.agg (lN b v)] w _;unfold lN;have hy:=HX.out.1;unfold lN at hy;obtain⟨f0,f1,f2,f3⟩:=fS (HC.out X (Below.refl _ _));go_enter Lo.get Tryz.func11,Tryz.ntmps11;go_wp2;refine(Lo.gV (b:=b) (v:=v) rfl (HA.out X (Below.refl _ _)) (by omega) hs).mono ?_
 rintro e w1⟨rfl,h1⟩;obtain⟨g0,g1,g2,g3⟩:=fS (HC.out w1 h1);have s1:=h1.size;have H1:=Lib.hid h1;clear h1 hy f0 f1 f2 f3;have hg:=lM hs hcf;have hw1:=yR b (-1);rw[if_neg (by omega)]at hw1;have hwl:b.dz.length<=(fA b (-1)).length:=by omega
 rw[hcf];have HH:=Lib.hid hho;clear hcf hho;go_wp2;refine(Lo.zR (b:=b) (v:=v) rfl (HA.out w1 H1.out) (by omega) hg (-1) (by omega)).mono ?_
 rintro e w2 h;unfold qC at h;rw[if_pos HH.out]at h;obtain⟨νx,rfl,hown, -,hb2⟩:=h;obtain⟨nw,hnw⟩:∃nw,(fA b (-1)).length=nw+1:=⟨(fA b (-1)).length-1,by omega⟩;rw[hnw]at hown;obtain⟨gg,cap,rfl,hgb,hgl,hcap⟩:=row_at hown;have hpc:b.dz.length<=cap:=by omega
 have k1:=(dH hb2 _ _ (by omega)).trans g1
 have hcells:∀i j,i<b.dz.length->j<2->w2.cell? ⟨gg,i*2+j,none⟩=some (.int .i64 (((p8 b)[2*i+j]?).getD 0)):= λi j hi hj=>by have :=hown.cells rfl (i*2+j) _ (uU _ (pV _ _) (show i<(fA b (-1)).length by omega) hj);rw[show(⟨gg,0,none⟩:Addr).add (i*2+j)=⟨gg,i*2+j,none⟩from by unfold Addr.add;split<;>simp_all]at this;exact this
 have HR:=Lib.hid (And.intro hcells hb2);have hle:b.dz.length<=nw+1:=by omega
 clear hown hcells hb2 hnw hwl hw1;go_wp2
 go_ret2
 exact⟨HX.out.2.trans ((H1.out.trans (HR.out.2.mono s1)).mono (by omega)),_,_,rfl,by omega,hgl,HR.out.1⟩
end Go.Proofs
end
