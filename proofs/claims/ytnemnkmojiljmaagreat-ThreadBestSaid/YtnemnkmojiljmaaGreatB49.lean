/- Part 49. -/
import Derived.RangeFuncRecord
import Derived.Test.YtnemnkmojiljmaaGreatB06
set_option maxRecDepth 100000
set_option maxHeartbeats 0
set_option linter.all false
namespace Go.Proofs
open Go Go.RowKit Go.Maps
def Ar (jQ:List Int) (k:Nat):Int:=(jQ[k]?).getD ((k:Int)*37)
def CL (jQ:List Int) (m k:Nat):Nat:=(Ar jQ k%(m:Int)).toNat
def pM (n m:Nat) (jQ:List Int):List Nat:=(List.range n).map (CL jQ m)
theorem VX (jQ:List Int) {m:Nat} (hm:0<m) (k:Nat):CL jQ m k<m:=by
 unfold CL;have h1:=Int.emod_lt_of_pos (Ar jQ k) (show (0:Int)<(m:Int) by omega);have h2:=Int.emod_nonneg (Ar jQ k) (show (m:Int)≠0 by omega);omega
theorem Ko (n m:Nat) (jQ:List Int):pM (n+1) m jQ=pM n m jQ++ [CL jQ m n]:=by
 simp [pM,List.range_succ]
def MC (l:List Int) (i j:Nat):Value:=.int .u16 ((l[i]?).getD 0)
abbrev RdU (w:World) (B:Nat) (A:Option Addr) (l:List Int):Prop:=Rd w B 1 A l.length (MC l)
def U16 (l:List Int):Prop:=∀x∈l,0<=x∧x<65536
variable [Lo.St]
theorem Lo.Yv {w:World} {B:Nat} {A:Option Addr} {l:List Int} {c k:Nat} {a b:Int} (h:RdU w B A l) (hu:U16 l) (hB:B<=w.heap.size) (hab:0<=a∧a<=b∧b<=100000000) (hk:k<=10000):
 Calls Lo.prog 31 #[.agg #[.int .i64 a,.int .i64 b],.slice A l.length c,.int .i64 (k:Int)] w λe w'=>e= .returned (.int .i64 (a+Ar l k%(b - a+1)))∧Below w.heap.size w w':=by
 obtain ⟨U,U2,U3,U4,U5,U6⟩:=Lo.facts;obtain ⟨ha,hle,hb⟩:=hab
 have key:∀x:Int,0<=x->x<2000000->IntKind.i64.wrap (b - a)=b - a∧IntKind.i64.wrap (b - a+1)=b - a+1∧¬(b - a+1=0)∧x.tmod (b - a+1)=x%(b - a+1)∧IntKind.i64.wrap (x%(b - a+1))=x%(b - a+1)∧IntKind.i64.wrap (a+x%(b - a+1))=a+x%(b - a+1)∧IntKind.i64.wrap x=x:= λx h0 h1=>by
  have m1:0<=x%(b - a+1):=Int.emod_nonneg _ (by omega);have m2:x%(b - a+1)<b - a+1:=Int.emod_lt_of_pos _ (by omega);refine ⟨?_,?_,by omega,Int.tmod_eq_emod_of_nonneg h0,?_,?_,?_⟩<;>(rw [cB];omega)
 by_cases hlt:k<l.length
 ·have hlt':(k:Int)<(l.length:Int):=by omega
  obtain ⟨bb,off,rfl,hbb,hc⟩:=h (by omega);have r:=hc k 0 hlt (by omega);rw [show off+(k*1+0)=off+k by omega] at r;have e:Ar l k=l[k]:=by unfold Ar;rw [aO hlt];rfl
  have e2:MC l k 0= .int .u16 l[k]:=by unfold MC;rw [aO hlt];rfl
  have hx:=hu _ (aY hlt);rw [e];rw [e2] at r;generalize l[k]=x at r hx;obtain ⟨i1,i2,i3,i4,i5,i6,i7⟩:=key x hx.1 (by omega);have r2:∀o,(w.alloc o).cell? ⟨bb,off+k,none⟩=some (.int .u16 x):= λo=>(dh _ _ _ (by show bb<w.heap.size;omega)).trans r
  have iw:IntKind.i64.wrap ((k:Int)*37)=(k:Int)*37:=by rw [cB];omega
  clear hc key e e2 h hu;go_enter Lo.func31,Tryz.ntmps31;go_wp2;obtain ⟨X,hX⟩:∃X,w.alloc (.cells #[.int .i64 a,.int .i64 b] 51)=X:=⟨_,rfl⟩;have Og:X.heap[w.heap.size]?=some (.cells #[.int .i64 a,.int .i64 b] 51):=hX ▸ cK _ _
  have VY:Below w.heap.size w X:=hX ▸ (di _ _).alloc (aJ _) _;obtain ⟨x0,x1, -, -⟩:=Fg Og;rw [hX];have HX:=dw VY;clear hX Og VY
  go_still_tail 11,Lo.mixed
  change wpList _ _ _ _ _ X.drew;go_wp2;go_ret;exact ⟨rfl,HX.out.drew⟩
 ·have hlt':¬(k:Int)<(l.length:Int):=by omega
  have e:Ar l k=(k:Int)*37:=by unfold Ar;rw [List.getElem?_eq_none (by omega)];rfl
  rw [e];obtain ⟨i1,i2,i3,i4,i5,i6,i7⟩:=key ((k:Int)*37) (by omega) (by omega);clear key e h hu;go_enter Lo.func31,Tryz.ntmps31;go_wp2;obtain ⟨X,hX⟩:∃X,w.alloc (.cells #[.int .i64 a,.int .i64 b] 51)=X:=⟨_,rfl⟩;have Og:X.heap[w.heap.size]?=some (.cells #[.int .i64 a,.int .i64 b] 51):=hX ▸ cK _ _
  have VY:Below w.heap.size w X:=hX ▸ (di _ _).alloc (aJ _) _;obtain ⟨x0,x1, -, -⟩:=Fg Og;rw [hX];have HX:=dw VY;clear hX Og VY
  go_still_tail 11,Lo.mixed
  change wpList _ _ _ _ _ X.drew;go_wp2;go_ret;exact ⟨rfl,HX.out.drew⟩
theorem Lo.VZ {w:World} {B:Nat} {A:Option Addr} {l:List Int} {c m k:Nat} (h:RdU w B A l) (hu:U16 l) (hB:B<=w.heap.size) (hm:1<=m∧m<=4) (hk:k<=64):
 Calls Lo.prog 31 #[.agg #[.int .i64 0,.int .i64 ((m:Int) - 1)],.slice A l.length c,.int .i64 (k:Int)] w λe w'=>e= .returned (.int .i64 ((CL l m k:Nat):Int))∧Below w.heap.size w w':=by
 have e:(0:Int)+Ar l k%((m:Int) - 1 - 0+1)=((CL l m k:Nat):Int):=by
  unfold CL;have h2:=Int.emod_nonneg (Ar l k) (show (m:Int)≠0 by omega);rw [show (m:Int) - 1 - 0+1=(m:Int) by omega];omega
 rw [<-e];exact Lo.Yv h hu hB ⟨Int.le_refl _,by omega,by omega⟩ (by omega)
end Go.Proofs
