/- Part 2. -/
import Derived.Test.YtnemnkmojiljmaaGreatM01
set_option maxRecDepth 100000
set_option maxHeartbeats 0
set_option linter.all false
namespace Go.Proofs
open Go Go.RowKit Go.Maps
section
section
variable {P:Program} {w:World}
theorem bU {ops:Array Oper} {rest:List Oper} {o:Oper} {a:Act} {Q:Exit->Act->World->Prop} (hgd:o.guard=none) (s x:Operand) (t:TypeId)
 (ho:o.op= .call { callee:=.builtin .append,args:= #[s,x],argTypes:= #[t,t] })
 (base:Nat) (e:TypeId) (i:TypeInfo) (z:Value) (size bytes:Nat) (ht:P.underlying t=some (.slice e)) (hi:P.info? e=some i) (hz:i.zero=some z)
 (hsize:i.size=size) (hby:i.bytes=bytes) (hzs:z.cells.size=size) (hsz:0<size)
 (v:Value) (n:Nat) (xs:List Value) (hs:a.eval s=v) (hown:w.ownsRow base e size v n xs)
 (A:Option Addr) (m c:Nat) (news:List Value) (hx:a.eval x= .slice A m c) (hl:news.length=m*size) (hnews:∀ad,A=some ad->∀j u,news[j]?=some u->w.cell? (ad.add j)=some u) (h0:A=none->m=0) (h1:∀u∈news,u.oneCell'=true)
 (h63:n+m<=maxLen) (hbytes:(n+m)*bytes<=140737488355328) (hbase:base<=w.heap.size)
 (h:∀v' w',w'.ownsRow base e size v' (n+m) (xs++news)->w.grownBy w' v.ownBlock->wpList P ops Q rest (a.put o.dst v') w'):wpList P ops Q (o::rest) a w:=by
 cases A with
 |some ad=>exact wpList_append_own w hgd s x t ho base e i z size bytes ht hi hz hsize hby hzs hsz v n xs hs hown ad m c news hx hl (hnews ad rfl) h1 h63 hbytes hbase λv' w' a1 a2 _=>h v' w' a1 a2
 |none=>
  obtain rfl:=h0 rfl;obtain rfl:news= []:=List.eq_nil_of_length_eq_zero (by simpa using hl);refine wpList_plain hgd λK hK=>?_
  have hrun:(Builtin.append_ #[t,t] o.type #[v,.slice none 0 c]).run P w= .ok v w:=by
   rcases hown.2 with ⟨rfl,rfl⟩|⟨g,cap,cur,rfl,_,_,hnc,_⟩
   ·simp [Builtin.append_,run_underlying ht,sizeOf,typeInfo,hi,Builtin.lenOf,Builtin.firstCells]
   ·simp [Builtin.append_,run_underlying ht,sizeOf,typeInfo,hi,Builtin.lenOf,Builtin.firstCells,hnc,storeCells]
  unfold Oper.wp execOp;simp only [ho,resolve,invoke,builtin,Sem.run_bind,Sem.run_pure,Result.andThen_ok,List.map_toArray,aC,List.map_nil,hs,hx,hrun];exact hK _ _ (h _ _ (by rw [List.append_nil];exact hown) (pX _ _))
end
def ay8 (c:Array Value) (o:Nat) (a b d:Value):Array Value:=((c.setIfInBounds o a).setIfInBounds (o+1) b).setIfInBounds (o+2) d
theorem aA4 {Z:World} {p o:Nat} {c:Array Value} {t:TypeId} {a b d:Value} (h:Z.heap[p]?=some (.cells c t)):(((Z.setCell ⟨p,o,none⟩ a).setCell ⟨p,o+1,none⟩ b).setCell ⟨p,o+2,none⟩ d).heap[p]?=some (.cells (ay8 c o a b d) t):=
 heap_setCell_same _ p (o+2) _ t _ (heap_setCell_same _ p (o+1) _ t _ (heap_setCell_same Z p o _ t _ h))
def ScA (c:Array Value) (l:List jD):Prop:=∀i j,i<l.length->j<3->c[i*3+j]?=some (vD l i j)
theorem ScA.put {c:Array Value} {l:List jD} (h:ScA c l) {k:Nat} (hk:k<l.length) (y:jD):ScA (ay8 c (k*3) (.int .i64 y.pile) (.int .i64 y.lo) (.int .i64 y.hi)) (l.set k y):=by
 intro i j hi hj;rw [List.length_set] at hi;have hsz:∀j,j<3->k*3+j<c.size:= λj hj=>(aI.1 (h k j hk hj)).1
 have s0:=hsz 0 (by omega);have s2:=hsz 2 (by omega);unfold ay8 vD
 by_cases e:i=k
 ·subst e;rw [List.getElem?_set_self hk];obtain rfl|rfl|rfl:j=0∨j=1∨j=2:=by omega
  all_goals simp [Array.getElem?_setIfInBounds]
  all_goals exact ⟨by omega,rfl⟩
 ·rw [List.getElem?_set_ne (Ne.symm e)];have :=h i j hi hj;unfold vD at this;rw [<-this];simp only [Array.getElem?_setIfInBounds];rw [aa (by omega),aa (by omega),aa (by omega)]
variable [Lo.St]
theorem Lo.aw2 {w:World} {A A':Option Addr} {n c c':Nat} {l r:List Int} (hA:jR w A n l) (hB:jR w A' n r) (hn:n<=64) (h:∀i,i<n->bJ r i<=bJ l i∧bH l i<=bH r i):
 Calls Lo.prog 33 #[.slice A n c,.slice A' n c'] w λe w'=>e= .returned (.bool true)∧Below w.heap.size w w':=by
 obtain ⟨U,U2,U3,U4,U5,U6⟩:=Lo.facts;have d1:((n:Int) !=(n:Int))=false:=by simp
 go_enter Lo.get Tryz.func33,Tryz.ntmps33;go_wp2
 go_loopw [5] (λi wr=>∃k:Nat,k<=n∧i= .int .i64 (k:Int)∧Below w.heap.size w wr) (λi _=>n - (intOf i).toNat)
 case atStart=>exact ⟨0,bg _,rfl,di _ _⟩
 case round=>
  obtain ⟨k,hk,rfl,hb⟩:=hrel
  by_cases hlt:k<n
  ·have hlt':(k:Int)<(n:Int):=by omega
   obtain ⟨b1,o1,rfl,hb1,hc1⟩:=(hA.keep λb o h=>dH hb b o (by omega)) (by omega);obtain ⟨b2,o2,rfl,hb2,hc2⟩:=(hB.keep λb o h=>dH hb b o (by omega)) (by omega);have r1:=hc1 k 0 hlt (by omega);have r1':=hc1 k 1 hlt (by omega);have r2:=hc2 k 0 hlt (by omega);have r2':=hc2 k 1 hlt (by omega);have hd:=h k hlt;have HB:=dw hb;unfold bJ bH at hd;clear hc1 hc2 hA hB hb h;simp only [aH, <-Nat.add_assoc] at r1 r2 r1' r2';generalize (l[2*k]?).getD 0=x at r1 hd;generalize (l[2*k+1]?).getD 0=x' at r1' hd;generalize (r[2*k]?).getD 0=y at r2 hd;generalize (r[2*k+1]?).getD 0=y' at r2' hd;have q1:decide (x<y)=false:=by simp;omega
   have q2:decide (y'<x')=false:=by simp;omega
   go_wp2
   go_quiet (fail)
   go_wp2;go_roundw
   case rel=>exact ⟨k+1,by omega,by go_num,below_drewN HB.out _⟩
   case measure=>simp [intOf];omega
  ·obtain rfl:k=n:=by omega
   go_wp2;go_ret;exact ⟨rfl,hb⟩
end
section
variable [Lo.St]
theorem ay9 {b:dO} {l:List jD} (h:l.Perm b.dA):qR (bX b l)=qR b:=by
 unfold qR;rw [aw8 h];rfl
theorem az0 {b:dO} {l:List jD} (h:l.Perm b.dA):p8 (bX b l)=p8 b:=by
 unfold p8;rw [aw8 h];rfl
theorem ax6 {b:dO} {x:jD} (h:qR (bM b x)=true):qR b=true:=(ay5 b x (-1)).holds h
theorem bY {b:dO} (x:jD) (hand:Int) {k:Nat} (hk:k<(fA b hand).length):bJ (mG (fA b hand) (dZ b hand)) k<=bJ (mG (fA (bM b x) hand) (dZ (bM b x) hand)) k∧bH (mG (fA (bM b x) hand) (dZ (bM b x) hand)) k<=bH (mG (fA b hand) (dZ b hand)) k:=by
 have hl:(fA (bM b x) hand).length=(fA b hand).length:=by rw [yR,yR];rfl
 exact az7 (nd:=dZ b hand) (ay5 b x hand) (aN (by omega))
theorem ax7 {b:dO} (x:jD) {i:Nat} (hi:i<b.dz.length):bJ (p8 b) i<=bJ (p8 (bM b x)) i∧bH (p8 (bM b x)) i<=bH (p8 b) i:=
 bY x (-1) (by rw [yR];omega)
theorem cu (o:List Int) (np:Nat):∀{n k:Nat},k<n->bJ (qU o np n) k=bJ o (np+2*k+1)∧bH (qU o np n) k=bH o (np+2*k+1)
 |n+1,k,h=>by
  have hl:=Dk o np n;unfold bJ bH;rw [qU]
  by_cases e:k=n
  ·subst e;rw [List.getElem?_append_right (by omega),List.getElem?_append_right (by omega),hl,Nat.sub_self,show 2*k+1 - 2*k=1 by omega];exact ⟨rfl,rfl⟩
  ·rw [List.getElem?_append_left (by omega),List.getElem?_append_left (by omega)];exact cu o np (by omega)
theorem ax1 {b:dO} (x:jD) {i:Nat} (hi:i<b.steps.length):bJ (yY b) i<=bJ (yY (bM b x)) i∧bH (yY (bM b x)) i<=bH (yY b) i:=by
 obtain ⟨h1,h2⟩:=cu (p8 b) b.dz.length (n:=b.steps.length) hi;obtain ⟨h3,h4⟩:=cu (p8 (bM b x)) b.dz.length (n:=b.steps.length) hi;have h:=bY (b:=b) x (-1) (k:=b.dz.length+2*i+1) (by rw [yR];omega);show bJ (qU _ _ _) i<=bJ (qU _ _ _) i∧bH (qU _ _ _) i<=bH (qU _ _ _) i;have e1:(bM b x).dz.length=b.dz.length:=rfl;have e2:(bM b x).steps.length=b.steps.length:=rfl;rw [e1,e2,h1,h2,h3,h4];exact h
theorem bT (b:dO) (limit:Int):∀{n h:Nat},h<n->(oG b limit n)[h]?=some (nU (bJ (zS b h) (b.dz.length+2*b.steps.length)) (bH (zS b h) (b.dz.length+2*b.steps.length)) limit)
 |n+1,h,hh=>by
  have hl:=uV b limit n;rw [oG]
  by_cases e:h=n
  ·subst e;rw [List.getElem?_append_right (by omega),hl,Nat.sub_self];rfl
  ·rw [List.getElem?_append_left (by omega)];exact bT b limit (by omega)
theorem ax8 {b:dO} (x:jD) (limit:Int) (hs:(bM b x).small) (hc:fG (bM b x)=0) (hh:qR (bM b x)=true) {h:Nat} (hi:h<b.dJ.length):
 ((zT b limit)[h]?).getD 0≠0->((zT (bM b x) limit)[h]?).getD 0=((zT b limit)[h]?).getD 0:=by
 have hw:b.dz.length+2*b.steps.length<(fA b h).length:=by rw [yR,aj (by omega)];omega
 have hw2:b.dz.length+2*b.steps.length<(fA (bM b x) h).length:=by rw [yR,aj (by omega)];show _<b.dz.length+2*b.steps.length+1;omega
 obtain ⟨e1,e2⟩:=bY (b:=b) x h hw;have e3:=aA1 (nd:=dZ (bM b x) h) (aN hw2) (av7 hs hc hh h);have j1:=bT b limit (n:=b.dJ.length) hi;have j2:=bT (bM b x) limit (n:=b.dJ.length) hi;have k2:(bM b x).dz.length+2*(bM b x).steps.length=b.dz.length+2*b.steps.length:=rfl;rw [k2] at j2;show ((oG b limit b.dJ.length)[h]?).getD 0≠0->((oG (bM b x) limit b.dJ.length)[h]?).getD 0=_;rw [j1,j2,ak,ak];unfold nU zS;intro hne;split at hne
 ·rename_i q;rw [aj (by omega),aj q]
 ·rename_i q;split at hne
  ·rename_i q2;rw [aa (by omega),aj (by omega),aa q,aj q2]
  ·exact absurd rfl hne
end
section
def ay6 (l:List Int) (i j:Nat):Value:=.int .u16 ((l[i]?).getD 0)
abbrev RdU (w:World) (B:Nat) (A:Option Addr) (l:List Int):Prop:=Rd w B 1 A l.length (ay6 l)
def U16 (l:List Int):Prop:=∀x∈l,0<=x∧x<65536
variable [Lo.St]
end
end Go.Proofs
