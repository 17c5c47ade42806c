/- Part 2. -/
import Derived.Test.YtnemnkmojiljmaaGreatH27
import Derived.Test.YtnemnkmojiljmaaGreatH23
import Derived.Test.YtnemnkmojiljmaaGreatH20
set_option maxRecDepth 100000
set_option maxHeartbeats 0
set_option linter.all false
section
namespace Go.Proofs
open Go Go.RowKit
variable [Lo.St]
def lowAt (o:List Int) (k:Nat):Int:=(o[2*k]?).getD 0
def highAt (o:List Int) (k:Nat):Int:=(o[2*k+1]?).getD 0
def loS (ss:List eX) (s:Nat) (x:eX) (a:Int):Int:=if kJ s x.fr x.to=1 then max a (gM ss s+x.hi) else a
def hiS (ss:List eX) (s:Nat) (x:eX) (a:Int):Int:=if kJ s x.fr x.to=2 then min a (x.lo - gM ss s) else a
theorem spanAt_at {ss:List eX} {s:Nat} {o:List Int} (ho:o.length=2*ss.length) {j k:Nat} {x:eX} (hx:ss[j]?=some x):
 lowAt (xm ss s o j) k=(if k=j then loS ss s x (lowAt o k) else lowAt o k)∧highAt (xm ss s o j) k=if k=j then hiS ss s x (highAt o k) else highAt o k:=by
 have hj:=(List.getElem?_eq_some_iff.1 hx).1;unfold xm;rw [hx];dsimp only;unfold lowAt highAt loS hiS
 by_cases e:k=j
 ·subst e;rw [if_pos rfl,if_pos rfl]
  by_cases h1:kJ s x.fr x.to=1
  ·rw [if_pos h1,if_pos h1,if_neg (by rw [h1];decide),List.getElem?_set_self (by omega),List.getElem?_set_ne (by omega)];exact ⟨rfl,rfl⟩
  ·rw [if_neg h1,if_neg h1]
   by_cases h2:kJ s x.fr x.to=2
   ·rw [if_pos h2,if_pos h2,List.getElem?_set_self (by omega),List.getElem?_set_ne (by omega)];exact ⟨rfl,rfl⟩
   ·rw [if_neg h2,if_neg h2];exact ⟨rfl,rfl⟩
 ·rw [if_neg e,if_neg e];split
  ·rw [List.getElem?_set_ne (by omega),List.getElem?_set_ne (by omega)];exact ⟨rfl,rfl⟩
  ·split
   ·rw [List.getElem?_set_ne (by omega),List.getElem?_set_ne (by omega)];exact ⟨rfl,rfl⟩
   ·exact ⟨rfl,rfl⟩
theorem rowTo_at {ss:List eX} {s:Nat} {o:List Int} (ho:o.length=2*ss.length) {k:Nat} {x:eX} (hx:ss[k]?=some x):∀j,j<=ss.length->
 lowAt (tX ss s o j) k=(if k<j then loS ss s x (lowAt o k) else lowAt o k)∧highAt (tX ss s o j) k=if k<j then hiS ss s x (highAt o k) else highAt o k
 |0,_=>⟨rfl,rfl⟩
 |j+1,hj=>by
  obtain ⟨h1,h2⟩:=rowTo_at ho hx (s:=s) j (by omega);obtain ⟨h3,h4⟩:=spanAt_at (s:=s) (o:=tX ss s o j) ((zN ss s o j).trans ho) (k:=k) (List.getElem?_eq_getElem (show j<ss.length by omega));unfold tX;rw [h3,h4,h1,h2]
  by_cases e:k=j
  ·subst e;rw [List.getElem?_eq_getElem (show k<ss.length by omega)] at hx;have hx:=Option.some.inj hx;rw [hx];simp
  ·by_cases hlt:k<j
   ·rw [if_neg e,if_neg e,if_pos hlt,if_pos (by omega),if_pos hlt,if_pos (by omega)];exact ⟨rfl,rfl⟩
   ·rw [if_neg e,if_neg e,if_neg hlt,if_neg (by omega),if_neg hlt,if_neg (by omega)];exact ⟨rfl,rfl⟩
theorem initTo_at {ss:List eX} {k:Nat} {x:eX} (hx:ss[k]?=some x):∀j,j<=ss.length->k<j->lowAt (nY ss j) k=x.lo∧highAt (nY ss j) k=x.hi
 |j+1,hj,hk=>by
  have hl:=CR ss j (by omega);unfold nY lowAt highAt;rw [List.getElem?_eq_getElem (show j<ss.length by omega)];dsimp only
  by_cases e:k=j
  ·subst e;rw [List.getElem?_eq_getElem (show k<ss.length by omega)] at hx;rw [Option.some.inj hx];rw [List.getElem?_append_right (by omega),List.getElem?_append_right (by omega),hl];simp
  ·rw [List.getElem?_append_left (by omega),List.getElem?_append_left (by omega)];exact initTo_at hx j (by omega) (by omega)
theorem sh1_add (s:Nat) (n:Int) (x:eX):OJ s n x=n+OJ s 0 x:=by
 unfold OJ;split
 ·omega
 ·split<;>omega
theorem lossTo_at (o:List Int) (np:Nat):∀{n k:Nat},k<n->lowAt (qU o np n) k=lowAt o (np+2*k+1)∧highAt (qU o np n) k=highAt o (np+2*k+1)
 |n+1,k,h=>by
  have hl:=Dk o np n;unfold lowAt highAt;rw [qU]
  by_cases e:k=n
  ·subst e;rw [List.getElem?_append_right (by omega),List.getElem?_append_right (by omega),hl,Nat.sub_self,show 2*k+1 - 2*k=1 by omega];exact ⟨rfl,rfl⟩
  ·rw [List.getElem?_append_left (by omega),List.getElem?_append_left (by omega)];exact lossTo_at o np (by omega)
end Go.Proofs
end
section
namespace Go.Proofs
open Go Go.RowKit Go.Maps
section
variable {P:Program} {w:World}
theorem step_append_opt {ops:Array Oper} {o:Oper} {a:Act} {K:Act->World->Prop} {Q:Exit->Act->World->Prop} {E:Prop} (hgd:o.guard=none) (s x:Operand) (t:TypeId)
 (ho:o.op= .call { callee:=.builtin .append,args:= #[s,x],argTypes:= #[t,t] })
 (base:Nat) (e:TypeId) (i:TypeInfo) (z:Value) (size bytes:Nat) (ht:P.underlying t=some (.slice e)) (hi:P.info? e=some i) (hz:i.zero=some z)
 (hsize:i.size=size) (hby:i.bytes=bytes) (hzs:z.cells.size=size) (hsz:0<size)
 (v:Value) (n:Nat) (xs:List Value) (hs:a.eval s=v) (hown:w.ownsRow base e size v n xs)
 (A:Option Addr) (m c:Nat) (news:List Value) (hx:a.eval x= .slice A m c) (hl:news.length=m*size) (hnews:∀ad,A=some ad->∀j u,news[j]?=some u->w.cell? (ad.add j)=some u) (h0:A=none->m=0) (h1:∀u∈news,u.oneCell'=true)
 (h63:n+m<=maxLen) (hbytes:(n+m)*bytes<=140737488355328) (hbase:base<=w.heap.size)
 (h:∀v' w',w'.ownsRow base e size v' (n+m) (xs++news)->w.grownBy w' v.ownBlock->K (a.put o.dst v') w'):
 if Region.wanted o (yielded ops a.tmps)=true then Oper.wp P o a w K Q else E:=by
 cases A with
 |some ad=>exact Par.PK hgd s x t ho base e i z size bytes ht hi hz hsize hby hzs hsz v n xs hs hown ad m c news hx hl (hnews ad rfl) h1 h63 hbytes hbase h
 |none=>
  obtain rfl:=h0 rfl;obtain rfl:news= []:=List.eq_nil_of_length_eq_zero (by simpa using hl);have hw:Region.wanted o (yielded ops a.tmps)=true:=by simp [Region.wanted,hgd]
  rw [if_pos hw]
  have hrun:(Builtin.append_ #[t,t] o.type #[v,.slice none 0 c]).run P w= .ok v w:=by
   rcases hown.2 with ⟨rfl,rfl⟩|⟨g,cap,cur,rfl,_,_,hnc,_⟩
   ·simp [Builtin.append_,run_underlying ht,sizeOf,typeInfo,hi,Builtin.lenOf,Builtin.firstCells]
   ·simp [Builtin.append_,run_underlying ht,sizeOf,typeInfo,hi,Builtin.lenOf,Builtin.firstCells,hnc,storeCells]
  unfold Oper.wp execOp;simp only [ho,resolve,invoke,builtin,Sem.run_bind,Sem.run_pure,Result.andThen_ok,List.map_toArray,List.map_cons,List.map_nil,hs,hx,hrun];exact h _ _ (by rw [List.append_nil];exact hown) (pX _ _)
end
end Go.Proofs
end
