/- Part 25. -/
import Derived.RangeFuncCalls
import Derived.OwnWalkIn
import Derived.LoopNIn
import Derived.LoopIn
import Derived.Shelf.RegionOpen
import Derived.Test.YtjoahejacacljaaGreatH21
set_option maxRecDepth 100000
set_option maxHeartbeats 0
set_option linter.all false
namespace Go.Proofs
section
def val(m:Nat)(l:List Nat):Nat:=l.foldl (λv d=>v*m+d) 0
def zW(m:Nat):∀(q:List Nat)(a:Nat),q.foldl (λv d=>v*m+d) a=a*m^ q.length+val m q
 | [],a=>by simp[val]
 |d::q,a=>by have h1:=zW m q (a*m+d);have h2:=zW m q (0*m+d);simp only[List.foldl_cons,List.length_cons,val]at *;rw[h1,h2];rw[Nat.pow_succ,Nat.add_mul,Nat.zero_mul,Nat.zero_add,Nat.mul_assoc,Nat.mul_comm m,Nat.add_assoc]
def xH(m:Nat)(p q:List Nat):val m (p++q)=val m p*m^ q.length+val m q:=by unfold val;rw[List.foldl_append];exact zW m q _
def qb(m d:Nat)(q:List Nat):val m (d::q)=d*m^ q.length+val m q:=by have :=xH m [d] q;simpa[val]using this
def EZ(m k:Nat):val m (List.replicate k 0)=0:=by
 induction k with
 |zero=>rfl
 |succ k ih=>rw[List.replicate_succ,qb,ih];simp
def val_last(m k:Nat)(h:0<m):val m (List.replicate k (m-1))+1=m^ k:=by
 induction k with
 |zero=>rfl
 |succ k ih=>
  rw[List.replicate_succ,qb,Nat.add_assoc,ih,List.length_replicate,Nat.pow_succ,Nat.mul_comm, <-Nat.mul_succ];congr 1;omega
def Gz(m:Nat):∀l:List Nat,(∀d∈l,d<m)->val m l<m^ l.length
 | [],_=>by simp[val]
 |d::q,h=>by
  rw[qb,List.length_cons,Nat.pow_succ];have h1:=Gz m q λx hx=>h x (aQ _ hx)
  have h2:=h d aP;have h3:(d+1)*m^ q.length<=m*m^ q.length:=Nat.mul_le_mul_right _ h2;rw[Nat.add_mul,Nat.one_mul]at h3;rw[Nat.mul_comm (m^ q.length)];omega
def val_inj(m:Nat):∀l l':List Nat,l.length=l'.length->(∀d∈l,d<m)->(∀d∈l',d<m)->val m l=val m l'->l=l'
 | [],[],_,_,_,_=>rfl
 |d::q,d'::q',hl,h,h',e=>by
  rw[qb,qb]at e;have hl':q.length=q'.length:=by simpa using hl
  have g:= λx hx=>h x (aQ d hx)
  have g':= λx hx=>h' x (aQ d' hx)
  have h1:=Gz m q g;have h2:=Gz m q' g';rw[hl']at e h1
  have hd:d=d':=by
   have p:∀a b x y k:Nat,x<k->y<k->a*k+x=b*k+y->a=b:=by
    intro a b x y k hx hy he;have h1:(a*k+x)/ k=a:=by rw[Nat.add_comm,Nat.add_mul_div_right _ _ (by omega),Nat.div_eq_of_lt hx,Nat.zero_add]
    have h2:(b*k+y)/ k=b:=by rw[Nat.add_comm,Nat.add_mul_div_right _ _ (by omega),Nat.div_eq_of_lt hy,Nat.zero_add]
    rw[<-h1, <-h2,he]
   exact p _ _ _ _ _ h1 h2 e
  subst hd;rw[val_inj m q q' hl' g g' (by omega)]
def Sj(m d k:Nat)(p:List Nat)(h:0<m):val m (p++(d+1)::List.replicate k 0)=val m (p++d::List.replicate k (m-1))+1:=by rw[xH,xH,qb,qb,EZ];have :=val_last m k h;simp only[List.length_cons,List.length_replicate];rw[Nat.add_mul];omega
def Lc(n b:Int):Int:=(n+b-1)/ b
def jV(dI:List (Int×Int))(cs:List (Int×Int×Int))(l:List Nat)(j:Nat):Int:=
 ((dI.zip l).map λx=>if x.2=j then Lc x.1.2 ((cs[j]?.getD (0,0,0)).1)else 0).sum
def qc(dI:List (Int×Int))(cs:List (Int×Int×Int))(l:List Nat):Int:=
 ((dI.zip l).map λx=>Lc (x.1.2*((cs[x.2]?.getD (0,0,0)).2.2)) 1000).sum
def tZ(dI:List (Int×Int))(cs:List (Int×Int×Int))(l:List Nat):List Int:=(List.range cs.length).map (jV dI cs l)
def iU(dI:List (Int×Int))(cs:List (Int×Int×Int))(l:List Nat):Int:=zU (tZ dI cs l) (((tZ dI cs l)[0]?).getD 0)
structure GoodS(dI:List (Int×Int))(cs:List (Int×Int×Int))(limit:Int):Prop where
 nl:dI.length<=6
 nc:1<=cs.length∧cs.length<=4
 lot:∀x∈dI,0<=x.2∧x.2<=1000000
 kv:∀x∈cs,1<=x.1∧x.1<=1000000
 errs:∀x∈cs,0<=x.2.2∧x.2.2<=1000
 lim:0<=limit∧limit<=1000000
def vS(n m:Nat)(l:List Nat):Prop:=l.length=n∧∀d∈l,d<m
def Bf(dI:List (Int×Int))(cs:List (Int×Int×Int))(limit:Int)(l:List Nat):Prop:=qc dI cs l<=limit
def Dt{a b:Int}(ha:0<=a)(hb:1<=b):0<=Lc a b:=by unfold Lc;exact Int.ediv_nonneg (by omega) (by omega)
def Sk{a b:Int}(ha:0<=a)(hb:1<=b):Lc a b<=a:=by
 unfold Lc;rw[<-Int.lt_add_one_iff];apply Int.ediv_lt_of_lt_mul (by omega);have h1:0<=a*(b-1):=Int.mul_nonneg ha (by omega);have h2:a*(b-1)=a*b-a:=by rw[Int.mul_sub,Int.mul_one]
 have h3:(a+1)*b=a*b+b:=by rw[Int.add_mul,Int.one_mul]
 omega
structure qE(dI:List (Int×Int))(cs:List (Int×Int×Int))(limit:Int)(i:Nat)(who:List Nat)(hours:Int)(found:Bool):Prop where
 no:found=false->who= []∧hours=0∧∀l,vS dI.length cs.length l->val cs.length l<i->¬Bf dI cs limit l
 yes:found=true->vS dI.length cs.length who∧val cs.length who<i∧Bf dI cs limit who∧hours=iU dI cs who∧
  ∀l,vS dI.length cs.length l->val cs.length l<i->Bf dI cs limit l->hours<iU dI cs l∨(hours=iU dI cs l∧val cs.length who<=val cs.length l)
def qE.start(dI:List (Int×Int))(cs:List (Int×Int×Int))(limit:Int):qE dI cs limit 0 [] 0 false:=
 ⟨λ_=>⟨rfl,rfl, λl _ h=>absurd h (by omega)⟩, λh=>by cases h⟩
def qE.pass{dI cs limit i who hours found}(h:qE dI cs limit i who hours found){l:List Nat}(hl:vS dI.length cs.length l)(hv:val cs.length l=i)
 (hx:Bf dI cs limit l->found=true∧hours<=iU dI cs l):qE dI cs limit (i+1) who hours found:=by
 have key:∀l',vS dI.length cs.length l'->val cs.length l'<i+1->val cs.length l'<i∨l'=l:=by
  intro l' h1 h2
  by_cases h3:val cs.length l'=i
  .exact .inr (val_inj _ _ _ (h1.1.trans hl.1.symm) h1.2 hl.2 (h3.trans hv.symm))
  .exact .inl (by omega)
 refine⟨λhf=>?_, λhf=>?_⟩
 .obtain⟨a,b,c⟩:=h.no hf;refine⟨a,b, λl' h1 h2 h3=>?_⟩;rcases key l' h1 h2 with h4|rfl
  .exact c l' h1 h4 h3
  .have :=(hx h3).1;rw[hf]at this;cases this
 .obtain⟨a,b,c,d,e⟩:=h.yes hf;refine⟨a,by omega,c,d, λl' h1 h2 h3=>?_⟩;rcases key l' h1 h2 with h4|rfl
  .exact e l' h1 h4 h3
  .have :=(hx h3).2;rcases Int.lt_or_eq_of_le this with h5|h5
   .exact .inl h5
   .exact .inr ⟨h5,by omega⟩
def qE.take{dI cs limit i who hours found}(h:qE dI cs limit i who hours found){l:List Nat}(hl:vS dI.length cs.length l)(hv:val cs.length l=i)
 (hok:Bf dI cs limit l) (hx:found=true->iU dI cs l<hours):qE dI cs limit (i+1) l (iU dI cs l) true:=by
 refine⟨λhf=>(by cases hf), λ_=>⟨hl,by omega,hok,rfl, λl' h1 h2 h3=>?_⟩⟩
 by_cases h4:val cs.length l'=i
 .have :=val_inj _ _ _ (h1.1.trans hl.1.symm) h1.2 hl.2 (h4.trans hv.symm);subst this;exact .inr ⟨rfl,aJ _⟩
 .have h5:val cs.length l'<i:=by omega
  cases found with
  |false=>exact absurd h3 ((h.no rfl).2.2 l' h1 h5)
  |true=>
   obtain⟨a,b,c,d,e⟩:=h.yes rfl;have :=hx rfl;rcases e l' h1 h5 h3 with h6|⟨h6,_⟩
   .exact .inl (by omega)
   .exact .inl (by omega)
def qd(dI:List (Int×Int))(cs:List (Int×Int×Int))(l:List Nat)(k:Nat):List Int:=tZ (dI.take k) cs (l.take k)
def iY(dI:List (Int×Int))(cs:List (Int×Int×Int))(l:List Nat)(k:Nat):Int:=qc (dI.take k) cs (l.take k)
def kC(dI cs l k):(qd dI cs l k).length=cs.length:=by simp[qd,tZ]
def yZ(dI cs l k){j:Nat}(h:j<cs.length):(qd dI cs l k)[j]?=some (jV (dI.take k) cs (l.take k) j):=by simp[qd,tZ,h]
def Ld(dI cs l):qd dI cs l 0=List.replicate cs.length 0:=by
 unfold qd tZ;apply List.ext_getElem?;intro j
 by_cases h:j<cs.length
 .simp[h,jV]
 .simp[h]
def y7(dI cs l):iY dI cs l 0=0:=by simp[iY,qc]
def wI{dI:List (Int×Int)}{l:List Nat}{k:Nat}(h1:k<dI.length)(h2:k<l.length):
 (dI.take (k+1)).zip (l.take (k+1))=(dI.take k).zip (l.take k)++ [(dI[k],l[k])]:=by
 rw[bu h1,bu h2,List.zip_append (by simp;omega)];rfl
def uX(cs:List (Int×Int×Int)){dI:List (Int×Int)}{l:List Nat}{k:Nat}(h1:k<dI.length)(h2:k<l.length)(j:Nat):
 jV (dI.take (k+1)) cs (l.take (k+1)) j=jV (dI.take k) cs (l.take k) j+(if l[k]=j then Lc dI[k].2 ((cs[j]?.getD (0,0,0)).1)else 0):=by
 unfold jV;rw[wI h1 h2];simp
def tH(cs:List (Int×Int×Int)){dI:List (Int×Int)}{l:List Nat}{k:Nat}(h1:k<dI.length)(h2:k<l.length):
 iY dI cs l (k+1)=iY dI cs l k+Lc (dI[k].2*(cs[l[k]]?.getD (0,0,0)).2.2) 1000:=by
 unfold iY qc;rw[wI h1 h2];simp
def Le(cs:List (Int×Int×Int)){dI:List (Int×Int)}{l:List Nat}{k:Nat}(h1:k<dI.length)(h2:k<l.length):
 qd dI cs l (k+1)=(qd dI cs l k).set l[k] (jV (dI.take k) cs (l.take k) l[k]+Lc dI[k].2 ((cs[l[k]]?.getD (0,0,0)).1)):=by
 apply List.ext_getElem?;intro j
 by_cases h:j<cs.length
 .rw[yZ _ _ _ _ h,List.getElem?_set,yZ _ _ _ _ h,uX cs h1 h2,kC]
  by_cases hj:l[k]=j
  .subst hj;simp[h]
  .simp[hj]
 .rw[List.getElem?_eq_none (by rw[kC];omega),List.getElem?_eq_none (by rw[List.length_set,kC];omega)]
section good
variable {dI:List (Int×Int)} {cs:List (Int×Int×Int)} {limit:Int} (g:GoodS dI cs limit)
include g
theorem GoodS.wR{k j:Nat}(h1:k<dI.length)(h2:j<cs.length):0<=Lc dI[k].2 (cs[j]?.getD (0,0,0)).1∧Lc dI[k].2 (cs[j]?.getD (0,0,0)).1<=1000000:=by rw[aN h2,ak];have a:=g.lot _ (aX h1);have b:=g.kv _ (aX h2);exact⟨Dt a.1 b.1,Int.le_trans (Sk a.1 b.1) a.2⟩
theorem GoodS.bj{k j:Nat}(h1:k<dI.length)(h2:j<cs.length):0<=dI[k].2*(cs[j]?.getD (0,0,0)).2.2∧dI[k].2*(cs[j]?.getD (0,0,0)).2.2<=1000000000:=by rw[aN h2,ak];have a:=g.lot _ (aX h1);have b:=g.errs _ (aX h2);refine⟨Int.mul_nonneg a.1 b.1,?_⟩;have h3:dI[k].2*cs[j].2.2<=1000000*cs[j].2.2:=Int.mul_le_mul_of_nonneg_right a.2 b.1;omega
theorem GoodS.Ek{k j:Nat}(h1:k<dI.length)(h2:j<cs.length):0<=Lc (dI[k].2*(cs[j]?.getD (0,0,0)).2.2) 1000∧Lc (dI[k].2*(cs[j]?.getD (0,0,0)).2.2) 1000<=1000000000:=by have :=g.bj h1 h2;exact⟨Dt this.1 (by omega),Int.le_trans (Sk this.1 (by omega)) this.2⟩
theorem GoodS.bnd{l:List Nat}(hl:vS dI.length cs.length l):∀k,k<=dI.length->
 (0<=iY dI cs l k∧iY dI cs l k<=1000000000*k)∧∀j,0<=jV (dI.take k) cs (l.take k) j∧jV (dI.take k) cs (l.take k) j<=1000000*k
 |0,_=>by simp[iY,qc,jV]
 |k+1,h=>by
  obtain⟨⟨a,b⟩,c⟩:=GoodS.bnd hl k (by omega);have h1:k<dI.length:=h;have h2:k<l.length:=by rw[hl.1];exact h
  have h3:l[k]<cs.length:=hl.2 _ (aX h2);refine⟨?_, λj=>?_⟩
  .rw[tH cs h1 h2];have :=g.Ek h1 h3;omega
  .rw[uX cs h1 h2];have :=c j;split
   .rename_i e;subst e;have :=g.wR h1 h3;omega
   .omega
theorem GoodS.mono{l:List Nat}(hl:vS dI.length cs.length l):∀k d,k+d=dI.length->
 iY dI cs l k<=qc dI cs l∧∀j,jV (dI.take k) cs (l.take k) j<=jV dI cs l j:=by
 intro k d
 induction d generalizing k with
 |zero=>
  intro h;have h1:dI.take k=dI:=List.take_of_length_le (by omega);have h2:l.take k=l:=List.take_of_length_le (by rw[hl.1];omega);unfold iY;rw[h1,h2];exact⟨Int.le_refl _, λ_=>Int.le_refl _⟩
 |succ d ih=>
  intro h;obtain⟨a,b⟩:=ih (k+1) (by omega);have h1:k<dI.length:=by omega
  have h2:k<l.length:=by rw[hl.1];omega
  have h3:l[k]<cs.length:=hl.2 _ (aX h2);rw[tH cs h1 h2]at a;refine⟨by have :=g.Ek h1 h3;omega, λj=>?_⟩;have :=b j;rw[uX cs h1 h2]at this;split at this
  .rename_i e;subst e;have :=g.wR h1 h3;omega
  .omega
end good
def Vu(l:List Int)(a:Int):a<=zU l a∧∀x∈l,x<=zU l a:=by
 induction l generalizing a with
 |nil=>exact⟨Int.le_refl _,by simp⟩
 |cons y l ih=>
  have :=ih (max a y);refine⟨by have :=this.1;show a<=zU l (max a y);omega, λx hx=>?_⟩;rcases bD.1 hx with rfl|hx
  .have :=this.1;show x<=zU l (max a x);omega
  .exact this.2 x hx
def El{dI cs}{l:List Nat}{j:Nat}(h:j<cs.length):jV dI cs l j<=iU dI cs l:=by
 unfold iU;refine(Vu _ _).2 _ ?_
 unfold tZ;exact List.mem_map.2 ⟨j,by simpa using h,rfl⟩
def Lf{dI cs}{l:List Nat}(hl:vS dI.length cs.length l):qd dI cs l dI.length=tZ dI cs l:=by unfold qd;rw[List.take_of_length_le (aJ _),List.take_of_length_le (by rw[hl.1];exact aJ _)]
def GA{dI cs}{l:List Nat}(hl:vS dI.length cs.length l):iY dI cs l dI.length=qc dI cs l:=by unfold iY;rw[List.take_of_length_le (aJ _),List.take_of_length_le (by rw[hl.1];exact aJ _)]
end
end Go.Proofs
namespace Go.Proofs
open Go Go.RowKit
section
structure Off(p q:Nat)(A B:World):Prop where
 os:B.os=A.os
 tape:B.tape=A.tape
 output:B.output=A.output
 size:A.heap.size<=B.heap.size
 block:∀k,k<A.heap.size->k<p∨q<k->B.heap[k]?=A.heap[k]?
def Off.mono{p q p' q':Nat}{A B:World}(h:Off p q A B)(h1:p'<=p)(h2:q<=q'):Off p' q' A B:=⟨h.os,h.tape,h.output,h.size, λk hk h3=>h.block k hk (by omega)⟩
def Off.trans{p q:Nat}{A B C:World}(h:Off p q A B)(k:Off p q B C):Off p q A C:=
 ⟨k.os.trans h.os,k.tape.trans h.tape,k.output.trans h.output,aS h.size k.size, λi hi h3=>(k.block i (aK hi h.size) h3).trans (h.block i hi h3)⟩
def Off.refl(p q:Nat)(A:World):Off p q A A:=⟨rfl,rfl,rfl,aJ _, λ_ _ _=>rfl⟩
def Off.putObj(W:World)(l:Nat)(o:Obj):Off l l W (W.putObj l o):=⟨rfl,rfl,rfl,by simp, λk _ h=>World.putObj_heap_other (by omega)⟩
def Off.alloc(W:World)(o:Obj)(p q:Nat):Off p q W (W.alloc o):=⟨rfl,rfl,rfl,by simp, λk h _=>Below.heap_alloc _ _ _ h⟩
def Off.below{p q n:Nat}{A B w:World}(h:Off p q A B)(hb:Below n w A)(hn:n<=p)(hs:n<=w.heap.size):Below n w B:=
 hb.trans ⟨h.os,h.tape,h.output,h.size, λk hk=>h.block k (by have :=hb.size;omega) (by omega)⟩
def ah1(Kp:Nat->Prop)(b:Nat)(A B:World):Prop:=A.heap.size<=B.heap.size∧∀k,k=b∨Kp k->B.heap[k]?=A.heap[k]?
def ov(F:Fence)(n:Nat)(P:Program)(g:Nat)(lb:Array Value)(x:Nat->Value)(M:Nat->Obj->Prop)(N:Nat)(Kp:Nat->Prop)(w:World):Prop:=
 ∀(l:Nat)(J:Nat->World->Prop)(W:World),Below w.heap.size w W->(∀i A B,J i A->Off W.heap.size W.heap.size A B->J i B)->
  (∀i W1 o,i<N->J i W1->W1.heap[W.heap.size]?=some o->M i o->YieldAt F (n-1) P l #[x W.heap.size] W1 λe W'=>e=.returned (.bool true)∧J (i+1) W'∧ah1 Kp W.heap.size W1 W')->
  J 0 W->
  CallsIn F n P g (#[.func (.yield l) #[] #[]]++lb) W λe W'=>(∃v,e=.returned v)∧J N W'
variable {F:Fence} {n:Nat} {P:Program}
def xz{g:Operand}{ps:Array Tmp}{assign body:Code}{Q:Exit->Act->World->Prop}{a:Act}{w:World}
 (hro:F.round=none) (h1:1<=n) {gf:Nat} {lb:Array Value} (hg:a.eval g=.func (.func gf) #[] lb) (hFg:F.fn gf) (eg:∀args w,(callFunc gf args).run P w=.ok (.enter gf args) w)
 {x:Nat->Value} {M:Nat->Obj->Prop} {N:Nat} {Kp:Nat->Prop} {w0:World} (hseq:ov F (n-1) P gf lb x M N Kp w0) (hb0:Below w0.heap.size w0 w) (hps:ps.size=1) (hKp:∀k,Kp k->k<w.heap.size)
 (I:Nat->World->Prop) (hI:∀i A B,I i A->Off w.heap.size (w.heap.size+2) A B->I i B) (h0:I 0 w) (qaf:Act)
 (hassign:∀(l:Nat)(W:World)(K:Act->World->Prop),K qaf W->
   assign.wpIn (F.inRound l) (n-1-1) P (Exit.then K (λ_ _ _=>False)) { tmps:=(ps.zip #[x (w.heap.size+2)]).foldl (λt (p,v)=>t.setIfInBounds p v) a.tmps,defers:=[] } W)
 (hbody:∀(l i:Nat)(W:World)(o:Obj),i<N->I i W->W.heap[w.heap.size+2]?=some o->M i o->
   body.wpIn (F.inRound l) (n-1-1) P (λe _ W'=>e=.normal∧(W.heap.size<=W'.heap.size∧∀k,(w.heap.size<=k∧k<=w.heap.size+2)∨Kp k->W'.heap[k]?=W.heap[k]?)∧I (i+1) W') qaf W)
 (hdone:∀(W:World),I N W->W.heap[w.heap.size]?=some (.deferred (some []))->Q .normal { a with defers:={ target:=.collected w.heap.size,args:= #[] }::a.defers } W):
 (Code.rangeFunc g ps assign body).wpIn F n P Q a w:=by
 refine wpIn_rangeFunc λfn hfn=>?_
 rw[hro];obtain⟨rec,hrec⟩:∃rec:LoopState->Option Code->Loop,rec= λst pe=>{ state:=st,pending:=pe,fn,tmps:=a.tmps,params:=ps,assign,body,defers:=w.heap.size }:=⟨_,rfl⟩
 obtain⟨W1,hW1⟩:∃W1,(w.alloc (.deferred (some []))).alloc (.loop (rec .ready none))=W1:=⟨_,rfl⟩;have hs1:W1.heap.size=w.heap.size+2:=by rw[<-hW1];simp
 have hL1:W1.heap[w.heap.size+1]?=some (.loop (rec .ready none)):=by rw[<-hW1];have :=World.alloc_heap_new (w.alloc (.deferred (some []))) (.loop (rec .ready none));rwa [World.size_alloc]at this
 have hK1:W1.heap[w.heap.size]?=some (.deferred (some [])):=by rw[<-hW1];exact(Below.heap_alloc _ _ _ (by simp)).trans (World.alloc_heap_new w _)
 have hI1:I 0 W1:=by rw[<-hW1];exact hI _ _ _ h0 ((Off.alloc w _ _ _).trans (Off.alloc _ _ _ _))
 have hb1:Below w0.heap.size w0 W1:=by rw[<-hW1];exact hb0.trans ((((Below.refl _ w).alloc (aJ _) _).alloc (by simp) _).mono hb0.size)
 refine⟨w.heap.size+1,[{ target:=.collected w.heap.size,args:= #[] }],W1,{ target:=.fn (.func gf) lb,args:= #[.func (.yield (w.heap.size+1)) #[] #[]] },W1,gf,
  #[.func (.yield (w.heap.size+1)) #[] #[]]++lb,W1,?_,?_,?_,?_, λ_=>h1,?_⟩
 .rw[<-hW1,hrec];exact run_enterLoop_outer _ _ _ _ _
 .simp only[resolve,hg];simp[go_sem]
 .intro f' hf';simp[Target.leads]at hf';subst hf';exact hFg
 .simp[invoke,go_sem,eg]
 .refine(hseq (w.heap.size+1)
   (λi W=>I i W∧W.heap[w.heap.size+1]?=some (.loop (rec .ready none))∧W.heap[w.heap.size]?=some (.deferred (some [])))
   W1 hb1
   (λi A B hs ho=>⟨hI i A B hs.1 (ho.mono (by omega) (by omega)),(ho.block _ (aI.1 hs.2.1).1 (by omega)).trans hs.2.1,(ho.block _ (aI.1 hs.2.2).1 (by omega)).trans hs.2.2⟩)
   ?_ ⟨hI1,hL1,hK1⟩).mono ?_
  .rintro i W o hlen⟨hi,hl,hk⟩hm hM;rw[hs1]at hm⊢;have hlt:w.heap.size+1<W.heap.size:=(aI.1 hl).1;have hy:=run_yield (P:=P) (args:= #[x (w.heap.size+2)]) hl (by rw[hrec];simp[hps]);rw[hrec]at hy;refine⟨fn,_,assign,body,hy,roundIn_of_wpIn hfn (hassign _ W _ ⟨_,run_beginRound hl (by rw[hrec]),?_⟩)⟩;have hl2:(W.putObj (w.heap.size+1) (.loop { rec .ready none with state:=.busy })).heap[w.heap.size+1]?=some (.loop { rec .ready none with state:=.busy }):=World.putObj_heap_same hlt
   have hk2:(W.putObj (w.heap.size+1) (.loop { rec .ready none with state:=.busy })).heap[w.heap.size]?=some (.deferred (some [])):=(World.putObj_heap_other (by omega)).trans hk
   have hm2:(W.putObj (w.heap.size+1) (.loop { rec .ready none with state:=.busy })).heap[w.heap.size+2]?=some o:=(World.putObj_heap_other (by omega)).trans hm
   refine wpIn_mono (hbody _ i _ o hlen (hI i _ _ hi ((Off.putObj _ _ _).mono (by omega) (by omega))) hm2 hM) ?_
   rintro e a3 W3⟨rfl,⟨hz,hkp⟩,hi3⟩;have hl3:=(hkp (w.heap.size+1) (.inl ⟨by omega,by omega⟩)).trans hl2;have hk3:=(hkp (w.heap.size) (.inl ⟨by omega,by omega⟩)).trans hk2;have hr:=run_endRound (P:=P) none hl3;refine⟨_,_,hr,rfl,⟨hI _ _ _ hi3 ((Off.putObj _ _ _).mono (by omega) (by omega)),?_,(World.putObj_heap_other (by omega)).trans hk3⟩,?_, λk hk'=>?_⟩
   .rw[World.putObj_heap_same (aI.1 hl3).1,hrec];rfl
   .simpa using hz
   .have hne:k≠w.heap.size+1:=by
     rcases hk' with rfl|h
     .omega
     .have :=hKp k h;omega
    rw[World.putObj_heap_other hne,hkp k (hk'.imp (λh=>⟨by omega,by omega⟩) id),World.putObj_heap_other hne]
  .rintro e W2⟨⟨v,rfl⟩,hi,hl,hk⟩;exact⟨none,_,by have :=run_endLoop (P:=P) hl (by rw[hrec];simp);rw[hrec]at this;exact this,hdone _ (hI _ _ _ hi ((Off.putObj _ _ _).mono (by omega) (by omega))) ((World.putObj_heap_other (by omega)).trans hk)⟩
end
end Go.Proofs
namespace Go.Proofs
open Go Go.RowKit Go.Maps
section
variable [Lo.St]
def LI(l:List Int):Obj:=.cells (l.map λx=>Value.int .i64 x).toArray 3
def nums(l:List Nat):List Int:=l.map Int.ofNat
def y8{W:World}{b:Nat}{l:List Int}(h:W.heap[b]?=some (LI l)){k:Nat}(hk:k<l.length):W.cell? ⟨b,k,none⟩=some (.int .i64 l[k]):=by unfold World.cell?;simp only[h,LI];simp[hk]
def E5{W:World}{b:Nat}{l:List Int}(h:W.heap[b]?=some (LI l))(k:Nat):W.frozen? ⟨b,k,none⟩=false:=by unfold World.frozen?;simp only[h,LI];simp
def Lg{W:World}{b:Nat}{l:List Int}(h:W.heap[b]?=some (LI l))(k:Nat)(x:Int):(W.setCell ⟨b,k,none⟩ (.int .i64 x)).heap[b]?=some (LI (l.set k x)):=by unfold World.setCell;simp only[bz,h,if_true,ay,LI];simp[List.map_set]
def Lo.run_make(n:Nat)(hn:n<=64)(W:World):(Instr.makeSlice 22 (.int .i64 (n:Int)) (.int .i64 (n:Int))).run Lo.prog W=.ok (.slice (some ⟨W.heap.size,0,none⟩) n n) (W.alloc (LI (List.replicate n 0))):=by
 obtain⟨i0,hi,hz0,hz1,hz2⟩:=info_parts Lo.info3;rw[Go.run_make W 22 3 i0 (.int .i64 0) Lo.I1 hi hz0 .i64 .i64 n n (by omega) (Int.le_refl _) (by rw[hz2];omega) (by omega)];refine congrArg (λo=>Result.ok (Value.slice (some ⟨W.heap.size,0,none⟩) n n) (W.alloc o)) ?_
 unfold LI;refine congrArg (λc=>Obj.cells c 3) ?_
 rw[hz1];apply Array.ext_getElem?;intro j;simp[madeCells,Value.cells]
 by_cases h:j<n
 .simp[h,Nat.mod_one]
 .simp[h]
def uY(l:List Nat):(nums l).length=l.length:=by simp[nums]
def MX{l:List Nat}{k:Nat}(h:k<l.length):(nums l)[k]'(by rw[uY];exact h)=((l[k]:Nat):Int):=by simp[nums]
def Jm(l:List Nat)(k x:Nat):(nums l).set k (x:Int)=nums (l.set k x):=by simp[nums,List.map_set]
def ShM(n m:Nat)(i:Nat)(o:Obj):Prop:=∃l,vS n m l∧val m l=i∧o=LI (nums l)
def Vv(m:Nat):Option Obj->Nat
 |some (.cells c _ _)=>val m (c.toList.map λv=>(intOf v).toNat)
 |_=>0
def MZ(m:Nat)(l:List Nat):Vv m (some (LI (nums l)))=val m l:=by
 unfold Vv LI;simp only[List.toList_toArray,nums,List.map_map];congr 1;rw[List.map_congr_left (g:=id)]
 .simp
 .intro x _;simp[intOf]
def Off.grown{b:Nat}{W:World}(a:Addr)(v:Value)(h:a.block=b):Off b b W (W.setCell a v):=⟨rfl,rfl,rfl,by simp[World.setCell], λk _ h3=>Below.heap_setCell _ _ _ _ (by omega)⟩
def Off.drew(p q:Nat)(W:World):Off p q W W.drew:=⟨rfl,rfl,rfl,aJ _, λ_ _ _=>rfl⟩
def Off.drewN(p q:Nat)(W:World)(n:Nat):Off p q W (W.drewN n):=⟨rfl,rfl,rfl,aJ _, λ_ _ _=>rfl⟩
def Sq{l:List Nat}{j n:Nat}(hl:l.length=n)(hj:j<n):(l.take (j+1)++List.replicate (n-(j+1)) 0).set j 0=l.take j++List.replicate (n-j) 0:=by rw[List.set_append_left _ _ (by simp;omega),bu (by omega),List.set_append_right _ _ (by simp;omega)];simp only[List.length_take,Nat.min_eq_left (show j<=l.length by omega),Nat.sub_self,List.set_cons_zero,List.append_assoc];rw[show n-j=(n-(j+1))+1 by omega,List.replicate_succ];rfl
def Sr{l:List Nat}{j n x:Nat}(hl:l.length=n)(hj:j<n):(l.take (j+1)++List.replicate (n-(j+1)) 0).set j x=l.take j++x::List.replicate (n-(j+1)) 0:=by rw[List.set_append_left _ _ (by simp;omega),bu (by omega),List.set_append_right _ _ (by simp;omega)];simp only[List.length_take,Nat.min_eq_left (show j<=l.length by omega),Nat.sub_self,List.set_cons_zero,List.append_assoc];rfl
def Jn{l:List Nat}{j n m:Nat}(hl:l.length=n)(h:∀d∈l.drop j,d=m-1):l=l.take j++List.replicate (n-j) (m-1):=by have:l.drop j=List.replicate (n-j) (m-1):=List.eq_replicate_iff.2 ⟨by simp[hl],h⟩;rw[<-this,List.take_append_drop]
def Lo.Vw(q:Nat){n m:Nat}(hn:n<=6)(hm:1<=m∧m<=4){b1 b2:Nat}{w:World}(h1:w.cell? ⟨b1,0,none⟩=some (.int .i64 (n:Int)))(h2:w.cell? ⟨b2,0,none⟩=some (.int .i64 (m:Int)))(hb1:b1<w.heap.size)(hb2:b2<w.heap.size):
 ov Fence.wide q Lo.prog 89 #[.pointer (some ⟨b1,0,none⟩),.pointer (some ⟨b2,0,none⟩)] (λb=>.slice (some ⟨b,0,none⟩) n n) (ShM n m) (m^ n) (λk=>k=b1∨k=b2) w:=by
 intro l J W hW hJ hY h0;obtain⟨U,U2,U3,U4,U5,U6⟩:=Lo.facts;have hmk:=Lo.run_make n (by omega);have c1:=(hW.cell (p:=⟨b1,0,none⟩) hb1).trans h1;have c2:=(hW.cell (p:=⟨b2,0,none⟩) hb2).trans h2;have hs1:b1<W.heap.size:=aK hb1 hW.size;have hs2:b2<W.heap.size:=aK hb2 hW.size;obtain⟨hm1,hm2⟩:=hm;have HJ:=dw hJ;have HY:=dw hY;have HC:=dw (aM c1 c2);clear hY hJ h1 h2 hW;refine callsIn_of_wp (Lo.get Tryz.func89) rfl trivial ?_ rfl
 simp only[Tryz.ntmps89,List.size_toArray,List.length_cons,List.length_nil,Nat.reduceAdd,Nat.reduceSub,Array.replicate_succ,Array.replicate_zero,List.push_toArray,List.append_toArray,List.nil_append,List.cons_append]
 gi_wp2
 clear c1 c2
 gi_loopw [5] (λ_ wr=>∃(i:Nat)(d:List Nat),i<m^ n∧vS n m d∧val m d=i∧J i wr∧wr.heap[W.heap.size]?=some (LI (nums d))∧wr.cell? ⟨b1,0,none⟩=some (.int .i64 (n:Int))∧wr.cell? ⟨b2,0,none⟩=some (.int .i64 (m:Int)))
  (λ_ wr=>m^ n-Vv m wr.heap[W.heap.size]?)
 case atStart=>
  refine⟨0,List.replicate n 0,Nat.pos_of_ne_zero (by simp;omega),⟨by simp, λd hd=>?_⟩,EZ m n,HJ.out _ _ _ h0 (Off.alloc W _ _ _),?_,?_,?_⟩
  .rw[(List.mem_replicate.1 hd).2];omega
  .rw[cK];simp[nums]
  .exact(dh _ _ _ hs1).trans HC.out.1
  .exact(dh _ _ _ hs2).trans HC.out.2
 case round=>
  obtain⟨i,d,hi,hd,hv,hj,hw,c1,c2⟩:=hrel;obtain⟨fn,tmps,assign,body,hy,hR⟩:=HY.out i wr _ hi hj hw ⟨d,hd,hv,rfl⟩;have HW:=dw hw;have hv0:Vv m wr.heap[W.heap.size]?=i:=by rw[hw,MZ,hv]
  have HV:=dw hv0;have HD:=dw (aM hd hv);clear hv0;have HJ2:=dw hj;clear hw hd hv hj
  gi_wp2
  refine⟨λh=>(by simp[Fence.wide]at h),hR.mono ?_⟩;rintro e W3⟨rfl,hJ3,hz3,hk3⟩;have k1:=(hk3 b1 (.inr (.inl rfl)));have k2:=(hk3 b2 (.inr (.inr rfl)));have k3:=(hk3 _ (.inl rfl)).trans HW.out;replace k1:W3.cell? ⟨b1,0,none⟩=some (.int .i64 (n:Int)):=(dm k1).trans c1;replace k2:W3.cell? ⟨b2,0,none⟩=some (.int .i64 (m:Int)):=(dm k2).trans c2;clear c1 c2 hR hy hk3;have HW3:=dw (aM k3 hJ3);clear k3 hJ3 HW HJ2
  gi_wp2
  gi_loopw [5] (λx wr=>∃j:Nat,j<=n∧x=.int .i64 ((j:Int)-1)∧(∀y∈d.drop j,y=m-1)∧wr.heap[W.heap.size]?=some (LI (nums (d.take j++List.replicate (n-j) 0)))∧Off W.heap.size W.heap.size W3 wr)
   (λx _=>(intOf x+1).toNat)
  case atStart=>
   refine⟨n,aJ _,by go_num, λy hy=>?_,?_,Off.refl _ _ _⟩
   .rw[List.drop_eq_nil_of_le (by rw[HD.out.1.1];exact aJ _)]at hy;cases hy
   .rw[List.take_of_length_le (by rw[HD.out.1.1];exact aJ _),Nat.sub_self,List.replicate_zero,List.append_nil];exact HW3.out.1
  case round=>
   obtain⟨j,hj,rfl,hall,hw,hoff⟩:=hrel;have hx2:wr.cell? ⟨b2,0,none⟩=some (.int .i64 (m:Int)):=(dm (hoff.block b2 (Nat.lt_trans hs2 (aI.1 HW3.out.1).1) (.inl hs2))).trans k2
   by_cases hj0:j=0
   .subst hj0;have HA:=dw (aM hall (aM hw hoff));clear hall hw hoff
    gi_wp2
    refine wpIn_wide.2 ?_
    go_quiet(fail)
    gi_wp2
    refine bodyPost_ret (results_none rfl _ _ _) rfl ⟨⟨_,rfl⟩,?_⟩
    have hlast:i+1=m^ n:=by have e:=Jn (m:=m) (j:=0) HD.out.1.1 HA.out.1;have e2:=val_last m n (by omega);rw[<-HD.out.2,e];simpa using e2
    rw[<-hlast];exact HJ.out _ _ _ HW3.out.2 (HA.out.2.2.trans (Off.drewN _ _ _ _))
   .have hj1:1<=j:=by omega
    clear hj0;obtain⟨j,rfl⟩:∃k,j=k+1:=⟨j-1,by omega⟩;have hlen:=HD.out.1.1;have hjd:j<d.length:=by omega
    have hcl:j<(nums (d.take (j+1)++List.replicate (n-(j+1)) 0)).length:=by rw[uY];simp;omega
    have hc:=y8 hw hcl
    have hcv:(nums (d.take (j+1)++List.replicate (n-(j+1)) 0))[j]=((d[j]:Nat):Int):=by rw[MX (by simpa[uY]using hcl),List.getElem_append_left (by simp;omega)];simp
    rw[hcv]at hc;have hfz:=E5 hw j;have Qm:=HD.out.1.2 _ (aX hjd);have hgt:((j+1:Nat):Int)-1=(j:Int):=by omega
    have hjn:j<n:=by omega
    have au3:(j:Int)<(n:Int):=by omega
    generalize hdj:d[j]=y at hc Qm
    by_cases hlast:y=m-1
    .have hyy:(y:Int)=(m:Int)-1:=by omega
     have HA:=dw (aM hall (aM hw (aM hoff (aM hdj hlast))));clear hall hw hoff hcv hcl hdj hlast;rw[hgt]
     gi_wp2
     refine wpIn_wide.2 ?_
     go_quiet(fail)
     gi_wp2
     refine⟨⟨j,by omega,rfl, λz hz=>?_,?_,HA.out.2.2.1.trans ((Off.drewN _ _ _ _).trans (Off.grown _ _ rfl))⟩,by simp[intOf]⟩
     .rw[aV hjd]at hz;rcases bD.1 hz with rfl|hz
      .rw[HA.out.2.2.2.1];exact HA.out.2.2.2.2
      .exact HA.out.1 z hz
     .have e:(nums (d.take (j+1)++List.replicate (n-(j+1)) 0)).set j 0=nums (d.take j++List.replicate (n-j) 0):=by
       have :=Jm (d.take (j+1)++List.replicate (n-(j+1)) 0) j 0;rw[Sq hlen hjn]at this;exact this
      rw[<-e];exact Lg (W:=wr.drewN nq) HA.out.2.1 j 0
    .have hyy:¬(y:Int)=(m:Int)-1:=by omega
     have hym:y+1<m:=by omega
     have hj0:¬(j:Int)<0:=by omega
     have HA:=dw (aM hall (aM hw (aM hoff (aM hdj hlast))));clear hall hw hoff hcv hcl hdj hlast;rw[hgt]
     gi_wp2
     refine wpIn_wide.2 ?_
     go_quiet(fail)
     gi_wp2
     have hd2:d=d.take j++y::List.replicate (n-(j+1)) (m-1):=by have h1:=Jn (m:=m) hlen HA.out.1;rw[bu hjd,HA.out.2.2.2.1]at h1;simpa using h1
     have hsh:vS n m (d.take j++(y+1)::List.replicate (n-(j+1)) 0):=by
      refine⟨by simp;omega, λz hz=>?_⟩;rcases List.mem_append.1 hz with h|h
      .exact HD.out.1.2 z (bE h)
      .rcases bD.1 h with rfl|h
       .exact hym
       .rw[(List.mem_replicate.1 h).2];omega
     have hv2:val m (d.take j++(y+1)::List.replicate (n-(j+1)) 0)=i+1:=by rw[Sj m y (n-(j+1)) (d.take j) (by omega), <-hd2,HD.out.2]
     have hi2:i+1<m^ n:=by have :=Gz m _ hsh.2;rw[hsh.1,hv2]at this;exact this
     have hw2:((wr.drewN nq).setCell ⟨W.heap.size,j,none⟩ (.int .i64 ((y:Int)+1))).heap[W.heap.size]?=some (LI (nums (d.take j++(y+1)::List.replicate (n-(j+1)) 0))):=by have :=Jm (d.take (j+1)++List.replicate (n-(j+1)) 0) j (y+1);rw[Sr hlen hjn]at this;rw[<-this];exact Lg (W:=wr.drewN nq) HA.out.2.1 j ((y:Int)+1)
     have ho:Off W.heap.size W.heap.size W3 ((wr.drewN nq).setCell ⟨W.heap.size,j,none⟩ (.int .i64 ((y:Int)+1))):=HA.out.2.2.1.trans ((Off.drewN _ _ _ _).trans (Off.grown _ _ rfl));refine⟨⟨i+1,_,hi2,hsh,hv2,HJ.out _ _ _ HW3.out.2 ho,hw2,?_,?_⟩,?_⟩
     .exact(dm (ho.block b1 (Nat.lt_trans hs1 (aI.1 HW3.out.1).1) (.inl hs1))).trans k1
     .exact(dm (ho.block b2 (Nat.lt_trans hs2 (aI.1 HW3.out.1).1) (.inl hs2))).trans k2
     .rw[hw2,MZ,hv2,HV.out];omega
end
end Go.Proofs
namespace Go.Proofs
open Go
section
variable {P:Program} {ops:Array Oper} {md:Region.Mode} {Q:Exit->Act->World->Prop}
def tJ(o:Oper):Bool:=match o.op with | .defer _=>false|_=>true
def Lh{o:Oper}(h:tJ o=true):∀c,o.op≠ .defer c:= λc e=>by simp[tJ,e]at h
def Su{l n:Nat}{o:Oper}(hd:tJ o=true){a:Act}{w:World}{K:Act->World->Prop}(h:o.wp P a w K Q):o.wpIn (Fence.wide.inRound l) n P a w K Q:=by
 refine⟨λ_ _=>trivial,?_⟩;rw[Oper.semAt_eq _ _ _ (Lh hd)];unfold Oper.wp at h;generalize(execOp a.eval o).run P w=r at h⊢;cases r with
 |ok v w'=>
  cases v with
  |value v=>exact h
  |skip=>exact h
  |defer d=>exact h
  |enter f args=>exact⟨λh=>(by simp[Fence.wide,Fence.inRound]at h),CallsIn.inRound l (callsIn_wide.2 h)⟩
  |row r args=>
   refine⟨λh=>(by simp[Fence.wide,Fence.inRound]at h), λc cs _=>?_⟩;obtain⟨v,w',hr,hs⟩:=h c cs;exact⟨v,w',hr,stepsIn_wide.2 hs⟩
  |_=>exact h.elim
 |halt s w'=>
  cases s with
  |panic v=>exact h
  |_=>exact h.elim
def rY{l n:Nat}(hQ:¬LetsOut Q)(hd:ops.all tJ=true):∀(f:Nat)(listed:Array Bool)(a:Act)(w:World),wpAny P md ops Q f listed a w->wpAnyIn (Fence.wide.inRound l) n P md ops Q f listed a w
 |0,_,_,_,h=>h
 |f+1,listed,a,w,h=>by
  refine⟨h.1, λi hi=>?_⟩;have h2:=h.2 i hi;unfold wpOp at h2;unfold wpOpIn;cases ho:ops[i]? with
  |none=>rw[ho]at h2;exact rY hQ hd f _ a w h2
  |some o=>
   rw[ho]at h2;dsimp only at h2⊢;split
   .rename_i hw;rw[aj hw]at h2;rcases h2 with h2|⟨_,h2⟩
    .have hdo:tJ o=true:=by
      have :=Array.all_eq_true'.1 hd o (aZ ho);exact this
     exact Su hdo (Oper.wp_mono (λa w h=>rY hQ hd f _ a w h) h2)
    .exact absurd h2 hQ
   .rename_i hw;rw[aa hw]at h2;exact⟨λ_ _=>trivial,rY hQ hd f _ _ w h2⟩
def AV{l0 m id:Nat}{a:Act}{w:World}{l:List Oper}(n:Nat)(hQ:¬LetsOut Q)(hm:P.follows .mixedOrders=true)(hd:l.toArray.all tJ=true)(hB:Region.lexTailB .any l.toArray n=true)
 (h:wpStill P l.toArray { w with drawn:=w.drawn+1 } (λa'=>wpList P l.toArray Q (l.drop n) a' { w with drawn:=w.drawn+1 }) (l.take n) a):(Code.region id l.toArray true).wpIn (Fence.wide.inRound l0) m P Q a w:=by
 refine wpIn_region_any hm (rY hQ hd _ _ _ _ ?_);unfold Region.lexTailB at hB;simp only[bB,decide_eq_true_eq]at hB;obtain⟨⟨⟨⟨b1,b2⟩,b3⟩,b4⟩,b5⟩:=hB;have b6:n<l.length:=by simpa using b2
 have t1:(l.take n).length=n:=by simp;omega
 have t2:(l.drop n).length=l.toArray.size-n:=by simp
 have hz:=wpAny_of_head (Q':=Q) (g:=l.toArray.size-n) (λls a' hL=>by
  have hs:=wpAny_of_seq (md:=.any) (Q':=Q) (l.drop n) n ls a' { w with drawn:=w.drawn+1 } (λj=>by simp[List.getElem?_drop]) (by rw[t2];exact hL.1) hL.2
  rwa [t2]at hs) _ _ _ (wpAnyL_lex (md:=.any) (g:=l.toArray.size-n) b1 b3 b4 b6 (l.take n) 0 (Array.replicate l.toArray.size false) a (λj hj=>by rw[t1]at hj;simp[hj]) (by simpa using t1) ⟨by simp, λj oj _ hl=>(by rw[getD_replicate_false]at hl;cases hl), λt _ ht=>getD_in (by simpa using ht) (getD_replicate_false _ _)⟩ (by rw[t1];exact b5) h)
 rw[t1,show n+(l.toArray.size-n)=l.toArray.size by omega]at hz;exact hz
def qF{l0 m id:Nat}{a:Act}{w:World}{l:List Oper}(hQ:¬LetsOut Q)(hm:P.follows .mixedOrders=true)(hd:l.toArray.all tJ=true)(hB:Region.lexB .any l.toArray=true)
 (h:wpQuiet P l.toArray (λw'=>∃n,w'=w.drewN n) (λa'=>∀w',(∃n,w'=w.drewN n)->Q .normal a' w') l a):(Code.region id l.toArray true).wpIn (Fence.wide.inRound l0) m P Q a w:=by
 unfold Region.lexB at hB;rw[bB]at hB;have h2:=wpAnyQ_lex (C:= λw'=>∃n,w'=w.drewN n) (md:=.any) hB.1 l 0 (Array.replicate l.toArray.size false) a (by simp) (by simpa using hB.2) h;refine wpIn_region_any hm (rY hQ hd _ _ _ _ (wpAny_of_quiet (C:= λw'=>∃n,w'=w.drewN n) (Q:= λa'=>∀w',(∃n,w'=w.drewN n)->Q .normal a' w') (λ_ w' hw' h=>h w' hw') _ _ _ _ ⟨1,rfl⟩ ?_));simpa using h2
end
end Go.Proofs
namespace Go.Proofs
open Go Go.RowKit Go.Maps
section
variable [Lo.St]
def Lo.Li{w:World}{bb off:Nat}{c:Nat}:
 Calls Lo.prog 51 #[.slice (some ⟨bb,off,none⟩) 0 c] w λe w'=>∃A cap,e=.returned (.slice A 0 cap)∧Below w.heap.size w w':=by
 obtain⟨U,U2,U3,U4,U5,U6⟩:=Lo.facts;obtain⟨i0,hi,hz0,hz1,hz2⟩:=info_parts Lo.info3;have hE:∀W:World,Sem.run Lo.prog (binOp .eql 22 (.slice (some ⟨bb,off,none⟩) 0 c) (.slice none 0 0)) W=.ok (.bool false) W:= λW=>Go.run_eql_slice_nil W 22 3 _ _ _ Lo.I1
 go_enter Lo.get Tryz.func51,Tryz.ntmps51;go_wp2;go_ret;exact⟨_,_,rfl,(di _ _).alloc (aJ _) _⟩
def Lo.Lj(n m:Int)(w:World):Calls Lo.prog 48 #[.int .i64 n,.int .i64 m] w λe w'=>e=.returned (.func (.func 89) #[] #[.pointer (some ⟨w.heap.size,0,none⟩),.pointer (some ⟨w.heap.size+1,0,none⟩)])∧w'=(w.alloc (.cells #[.int .i64 n] 3)).alloc (.cells #[.int .i64 m] 3):=by obtain⟨U,U2,U3,U4,U5,U6⟩:=Lo.facts;go_enter Lo.get Tryz.func48,Tryz.ntmps48;go_wp2;go_ret;exact⟨rfl,rfl⟩
end
section
variable [Lo.St]
def Du(w:World)(a b c d e f:Obj):Below w.heap.size w ((((((w.alloc a).alloc b).alloc c).alloc d).alloc e).alloc f):=
 ((((((di _ _).alloc (aJ _) _).alloc (by simp) _).alloc (by simp;omega) _).alloc (by simp;omega) _).alloc (by simp;omega) _).alloc (by simp;omega) _
def eY{W:World}{b:Nat}{v:Value}{e:TypeId}(h:W.heap[b]?=some (.cells #[v] e)):W.cell? ⟨b,0,none⟩=some v:=by unfold World.cell?;simp only[h];rfl
def iE{W:World}{b:Nat}{v:Value}{e:TypeId}(h:W.heap[b]?=some (.cells #[v] e)):W.frozen? ⟨b,0,none⟩=false:=by unfold World.frozen?;simp only[h];rfl
structure Xb(s:Nat)(a b c d e f:Obj)(W:World):Prop where
 g0:W.heap[s]?=some a
 g1:W.heap[s+1]?=some b
 g2:W.heap[s+1+1]?=some c
 g3:W.heap[s+1+1+1]?=some d
 g4:W.heap[s+1+1+1+1]?=some e
 g5:W.heap[s+1+1+1+1+1]?=some f
def Vx(w:World)(a b c d e f:Obj):Xb w.heap.size a b c d e f ((((((w.alloc a).alloc b).alloc c).alloc d).alloc e).alloc f):=by
 have h:= λk=>jT [a,b,c,d,e,f] w k
 exact⟨h 0 (by simp),h 1 (by simp),h 2 (by simp),h 3 (by simp),h 4 (by simp),h 5 (by simp)⟩
def Xb.keep{s:Nat}{a b c d e f:Obj}{W W':World}(h:Xb s a b c d e f W)(hk:∀k,s<=k->k<=s+5->W'.heap[k]?=W.heap[k]?):Xb s a b c d e f W':=
 ⟨(hk _ (by omega) (by omega)).trans h.g0,(hk _ (by omega) (by omega)).trans h.g1,(hk _ (by omega) (by omega)).trans h.g2,(hk _ (by omega) (by omega)).trans h.g3,(hk _ (by omega) (by omega)).trans h.g4,(hk _ (by omega) (by omega)).trans h.g5⟩
def E8{w w1:World}{a b c d e f:Obj}(h:Below ((((((w.alloc a).alloc b).alloc c).alloc d).alloc e).alloc f).heap.size ((((((w.alloc a).alloc b).alloc c).alloc d).alloc e).alloc f) w1):Xb w.heap.size a b c d e f w1∧Below w.heap.size w w1∧w.heap.size+6<=w1.heap.size:=
 ⟨(Vx w a b c d e f).keep λk h1 h2=>h.block k (by simp;omega),(Du w a b c d e f).trans (h.mono (by simp;omega)),by have :=h.size;simp at this;omega⟩
def Sv{dI:List (Int×Int)}{cs:List (Int×Int×Int)}{limit:Int}(h:fI dI cs limit=0):GoodS dI cs limit:=by
 unfold fI at h
 by_cases h1:6<dI.length
 .rw[aj h1]at h;cases h
 rw[aa h1]at h
 by_cases h2:kH cs.length 1 4=false
 .rw[aj h2]at h;cases h
 rw[aa h2]at h
 by_cases h3:dI.any jU=true
 .rw[aj h3]at h;cases h
 rw[aa h3]at h
 by_cases h4:cs.any jv=true
 .rw[aj h4]at h;cases h
 rw[aa h4]at h
 by_cases h5:kH limit 0 1000000=false
 .rw[aj h5]at h;cases h
 have e1:∀x∈dI,0<=x.1∧x.1<=x.2∧x.2<=1000000:= λx hx=>by
  have:jU x=false:=by
   cases hb:jU x with
   |false=>rfl
   |true=>exact absurd (List.any_eq_true.2 ⟨x,hx,hb⟩) h3
  unfold jU at this;exact qB.1 (by simpa using this)
 have e2:∀x∈cs,(1<=x.1∧x.1<=1000000)∧0<=x.2.1∧x.2.1<=x.2.2∧x.2.2<=1000:= λx hx=>by
  have:jv x=false:=by
   cases hb:jv x with
   |false=>rfl
   |true=>exact absurd (List.any_eq_true.2 ⟨x,hx,hb⟩) h4
  unfold jv at this;simp only[Bool.not_eq_false',bB]at this;refine⟨by have :=this.1;unfold kH at this;simpa using this,qB.1 this.2⟩
 have e3:0<=limit∧limit<=1000000:=by unfold kH at h5;simpa using h5
 have e4:1<=(cs.length:Int)∧(cs.length:Int)<=4:=by unfold kH at h2;simpa using h2
 exact⟨by omega,by omega, λx hx=>by have :=e1 x hx;omega, λx hx=>(e2 x hx).1, λx hx=>by have :=(e2 x hx).2;omega,e3⟩
def Lo.uv{tm:Array Value}{W:World}{b6 b7 b8 len cap:Nat}{A:Option Addr}{hours f:Int}{found:Bool}(t6:tm.getD 6 undef=.pointer (some ⟨b6,0,none⟩))(t7:tm.getD 7 undef=.pointer (some ⟨b7,0,none⟩))(t8:tm.getD 8 undef=.pointer (some ⟨b8,0,none⟩))(t9:tm.getD 9 undef=.int .i64 f)
 (c6:W.cell? ⟨b6,0,none⟩=some (.slice A len cap)) (c7:W.cell? ⟨b7,0,none⟩=some (.int .i64 hours)) (c8:W.cell? ⟨b8,0,none⟩=some (.bool found)):(results Tryz.f20 tm).run Lo.prog W=.ok (.tuple #[.slice A len cap,.int .i64 hours,.bool found,.int .i64 f]) W:=by
 obtain⟨U,U2,U3,U4,U5,U6⟩:=Lo.facts;have t6':tm[6]?.getD undef=.pointer (some ⟨b6,0,none⟩):=by simpa using t6
 have t7':tm[7]?.getD undef=.pointer (some ⟨b7,0,none⟩):=by simpa using t7
 have t8':tm[8]?.getD undef=.pointer (some ⟨b8,0,none⟩):=by simpa using t8
 have t9':tm[9]?.getD undef=.int .i64 f:=by simpa using t9
 unfold results Tryz.f20;dsimp only;go_simp
def y9(W:World)(lo:Nat)(A:Option Addr)(who:List Nat):Prop:=0<who.length->∃g,A=some ⟨g,0,none⟩∧lo<g∧g<W.heap.size∧∀j(h:j<who.length),W.cell? ⟨g,j,none⟩=some (.int .i64 (who[j]:Nat))
def y9.off{W W':World}{lo p q:Nat}{A:Option Addr}{who:List Nat}(h:y9 W lo A who)(ho:Off p q W W')(hq:q<=lo):y9 W' lo A who:= λhn=>by obtain⟨g,e,h1,h2,h3⟩:=h hn;exact⟨g,e,h1,aK h2 ho.size, λj hj=>(dm (ho.block g h2 (by omega))).trans (h3 j hj)⟩
def oN(w:World)(dI:List (Int×Int))(cs:List (Int×Int×Int))(limit:Int)(e:Ending)(w':World):Prop:=
 Below w.heap.size w w'∧
 if fI dI cs limit≠0 then e=.returned (.tuple #[.slice none 0 0,.int .i64 0,.bool false,.int .i64 (fI dI cs limit)])
 else∃A cap who hours found,e=.returned (.tuple #[.slice A who.length cap,.int .i64 hours,.bool found,.int .i64 0])∧qE dI cs limit (cs.length^ dI.length) who hours found∧y9 w' w.heap.size A who
def Lo.Sw{w:World}{B:Nat}{dI:List (Int×Int)}{cs:List (Int×Int×Int)}{A1 A2:Option Addr}{c1 c2:Nat}(h1:YM w B A1 dI)(h2:YN w B A2 cs)(hl1:dI.length<=64)(hl2:cs.length<=64)(hB:B<=w.heap.size)(limit:Int)(hne:fI dI cs limit≠0):
 Calls Lo.prog 20 #[.slice A1 dI.length c1,.slice A2 cs.length c2,.int .i64 limit] w (oN w dI cs limit):=by
 obtain⟨U,U2,U3,U4,U5,U6⟩:=Lo.facts;have C:=Lo.call Tryz.func47;generalize hcx:fI dI cs limit=cx at hne;have HX:=dw (aM hcx (aM h1 h2));clear hcx h1 h2;replace hne:¬cx=0:=hne;go_enter Lo.get Tryz.func20,Tryz.ntmps20;go_wp2
 go_step3
 go_wp2_with(go_at_call 47;refine(Lo.uW (B:=B) (HX.out.2.1.keep λb o h=>dH (Du _ _ _ _ _ _ _) b o (by omega)) (HX.out.2.2.keep λb o h=>dH (Du _ _ _ _ _ _ _) b o (by omega)) hl1 hl2 (by simp;omega) _).mono ?_;rintro e w1⟨rfl,hb1⟩;rw[HX.out.1];obtain⟨hsx,hbw,hsz⟩:=E8 hb1;clear hb1;have e0:=eY hsx.g0;have e1:=eY hsx.g1;have e2:=eY hsx.g2;have e3:=eY hsx.g3;have e4:=eY hsx.g4;have e5:=eY hsx.g5;have f3:=iE hsx.g3;have f4:=iE hsx.g4;have f5:=iE hsx.g5;have HS:=dw (aM hsx hbw);clear hsx hbw)
 rw[Exit.noGoto_ret];refine bodyPost_ret (Lo.uv (A:=none) (len:=0) (cap:=0) (hours:=0) (found:=false) rfl rfl rfl rfl ?_ ?_ ?_) rfl ?_
 .go_simp
 .go_simp
 .go_simp
 unfold oN;rw[HX.out.1,aj hne];refine⟨((HS.out.2.setCell (p:=⟨w.heap.size+1+1+1,0,none⟩) (by simp;omega) _).setCell (p:=⟨w.heap.size+1+1+1+1,0,none⟩) (by simp;omega) _).setCell (p:=⟨w.heap.size+1+1+1+1+1,0,none⟩) (by simp;omega) _,rfl⟩
end
section
variable [Lo.St]
attribute [local go_sem] Oper.semAt_some
structure M0(w:World)(s2:Nat)(o1 o2 o3:Obj)(dI:List (Int×Int))(cs:List (Int×Int×Int))(limit:Int)(i:Nat)(W:World):Prop where
 below:Below w.heap.size w W
 size:s2<=W.heap.size
 ex:∃A cap who hours found,Xb w.heap.size o1 o2 o3 (.cells #[.slice A who.length cap] 22) (.cells #[.int .i64 hours] 3) (.cells #[.bool found] 4) W∧qE dI cs limit i who hours found∧y9 W (s2+2) A who∧who.length<=6
def M0.off{w:World}{s2:Nat}{o1 o2 o3:Obj}{dI:List (Int×Int)}{cs:List (Int×Int×Int)}{limit:Int}{i:Nat}{A B:World}(hs:w.heap.size+6<=s2)(h:M0 w s2 o1 o2 o3 dI cs limit i A)(ho:Off s2 (s2+2) A B):M0 w s2 o1 o2 o3 dI cs limit i B:=by obtain⟨hb,hz,Ad,cap,who,hours,found,h6,iq,hw,hl⟩:=h;exact⟨ho.below hb (by omega) (aJ _),aS hz ho.size,Ad,cap,who,hours,found,h6.keep λk h1 h2=>ho.block k (by omega) (by omega),iq,hw.off ho (aJ _),hl⟩
def Xc{W:World}{b B:Nat}{l:List Int}(h:W.heap[b]?=some (LI l))(hB:b<B):xJ W B (some ⟨b,0,none⟩) l:= λ_=>by
 refine⟨b,0,rfl,hB, λi j hi hj=>?_⟩;obtain rfl:j=0:=by omega
 rw[show 0+(i*1+0)=i from by omega,y8 h hi];dsimp only;rw[aN hi];rfl
def Vy{W:World}{base lo n:Nat}{v:Value}{d:List Nat}(h:W.ownsRow base 3 1 v n ((nums d).map λx=>.int .i64 x))(hlo:lo<base):∃A cap,v=.slice A n cap∧y9 W lo A d:=by
 obtain⟨hl,h⟩:=h;have hn:d.length=n:=by simpa[nums]using hl
 rcases h with⟨rfl,rfl⟩|⟨g,cap,cur,rfl,hb,hg,h1,h2,h3,h4⟩
 .exact⟨none,0,rfl, λh=>absurd h (by omega)⟩
 .refine⟨_,cap,rfl, λ_=>⟨g,rfl,by omega,(aI.1 hg).1, λj hj=>?_⟩⟩
  have e:(cur.toList.take (n*1))[j]?=some (.int .i64 ((d[j]:Nat):Int)):=by rw[h4];simp[nums,hj]
  unfold World.cell?;simp only[hg];rw[List.getElem?_take]at e;split at e
  .simpa using e
  .cases e
def Lo.Jo{w:World}{b lo n c:Nat}{d:List Nat}(h:w.heap[b]?=some (LI (nums d)))(hn:d.length=n)(h6:n<=6)(hlo:lo<w.heap.size):
 Calls Lo.prog 51 #[.slice (some ⟨b,0,none⟩) n c] w λe w'=>∃A cap,e=.returned (.slice A n cap)∧y9 w' lo A d∧Below w.heap.size w w':=by
 by_cases h0:n=0
 .subst h0;refine Lo.Li.mono ?_
  rintro e w'⟨A,cap,rfl,hb⟩;exact⟨A,cap,rfl, λh=>absurd h (by omega),hb⟩
 .have hl:(nums d).length=n:=by rw[uY,hn]
  have hb:=(aI.1 h).1;have :=Lo.O7 (c:=c) (Xc h hb) (by rw[hl];omega) (by rw[hl];omega) (aJ _);rw[hl]at this;refine this.mono ?_
  rintro e w'⟨v,rfl,ho,_,hbe⟩;obtain⟨A,cap,rfl,hw⟩:=Vy ho hlo;exact⟨A,cap,rfl,hw,hbe⟩
def M0.pass{w:World}{s2 b1 b2:Nat}{o1 o2 o3:Obj}{dI:List (Int×Int)}{cs:List (Int×Int×Int)}{limit:Int}{i:Nat}{W W':World}{d who:List Nat}{A:Option Addr}{cap:Nat}{hours:Int}{found:Bool}(hWs:s2+2<W.heap.size)(hb1:b1<s2)(hb2:b2<s2)(hle:w.heap.size+6<=s2)(hb:Below w.heap.size w W)
 (h6:Xb w.heap.size o1 o2 o3 (.cells #[.slice A who.length cap] 22) (.cells #[.int .i64 hours] 3) (.cells #[.bool found] 4) W) (iq:qE dI cs limit i who hours found) (iJ:y9 W (s2+2) A who) (hwl:who.length<=6) (hd:vS dI.length cs.length d) (hv:val cs.length d=i) (ho:Off W.heap.size W.heap.size W W')
 (hx:Bf dI cs limit d->found=true∧hours<=iU dI cs d):(W.heap.size<=W'.heap.size∧∀k,s2<=k∧k<=s2+2∨k=b1∨k=b2->W'.heap[k]?=W.heap[k]?)∧M0 w s2 o1 o2 o3 dI cs limit (i+1) W':=by
 have hz:=hb.size;refine⟨⟨ho.size, λk hk=>ho.block k (by omega) (by omega)⟩,ho.below hb (by omega) (aJ _),aS (by omega) ho.size,A,cap,who,hours,found,h6.keep λk h1 h2=>ho.block k (by omega) (by omega),iq.pass hd hv hx, λhn=>?_,hwl⟩;obtain⟨g,e,h1,h2,h3⟩:=iJ hn;exact⟨g,e,h1,aK h2 ho.size, λj hj=>(dm (ho.block g h2 (by omega))).trans (h3 j hj)⟩
def vK{W:World}{b:Nat}{v0 v:Value}{e:TypeId}(h:W.heap[b]?=some (.cells #[v0] e)):(W.setCell ⟨b,0,none⟩ v).heap[b]?=some (.cells #[v] e):=by rw[heap_setCell_same W b 0 _ e v h];rfl
def iO{W:World}{b k:Nat}{v:Value}(h:k≠b):(W.setCell ⟨b,0,none⟩ v).heap[k]?=W.heap[k]?:=Below.heap_setCell W ⟨b,0,none⟩ v k h
def M0.take{w:World}{s2 b1 b2:Nat}{o1 o2 o3:Obj}{dI:List (Int×Int)}{cs:List (Int×Int×Int)}{limit:Int}{i:Nat}{W W':World}{d who:List Nat}{A A':Option Addr}{cap cap':Nat}{hours:Int}{found:Bool}(hWs:s2+2<W.heap.size)(hb1:b1<s2∧w.heap.size+6<=b1)(hb2:b2<s2∧w.heap.size+6<=b2)(hb:Below w.heap.size w W)
 (h6:Xb w.heap.size o1 o2 o3 (.cells #[.slice A who.length cap] 22) (.cells #[.int .i64 hours] 3) (.cells #[.bool found] 4) W) (iq:qE dI cs limit i who hours found) (hl6:dI.length<=6) (hd:vS dI.length cs.length d) (hv:val cs.length d=i)
 (hos:W'.os=W.os) (hta:W'.tape=W.tape) (hou:W'.output=W.output) (hsz:W.heap.size<=W'.heap.size) (hk:∀k,k<W.heap.size->W'.heap[k]?=W.heap[k]?) (hw:y9 W' (s2+2) A' d) (hok:Bf dI cs limit d) (hx:found=true->iU dI cs d<hours):
 (W.heap.size<=(((W'.setCell ⟨w.heap.size+1+1+1,0,none⟩ (.slice A' dI.length cap')).setCell ⟨w.heap.size+1+1+1+1,0,none⟩ (.int .i64 (iU dI cs d))).setCell ⟨w.heap.size+1+1+1+1+1,0,none⟩ (.bool true)).heap.size∧
   ∀k,s2<=k∧k<=s2+2∨k=b1∨k=b2->(((W'.setCell ⟨w.heap.size+1+1+1,0,none⟩ (.slice A' dI.length cap')).setCell ⟨w.heap.size+1+1+1+1,0,none⟩ (.int .i64 (iU dI cs d))).setCell ⟨w.heap.size+1+1+1+1+1,0,none⟩ (.bool true)).heap[k]?=W.heap[k]?)∧
 M0 w s2 o1 o2 o3 dI cs limit (i+1) (((W'.setCell ⟨w.heap.size+1+1+1,0,none⟩ (.slice A' dI.length cap')).setCell ⟨w.heap.size+1+1+1+1,0,none⟩ (.int .i64 (iU dI cs d))).setCell ⟨w.heap.size+1+1+1+1+1,0,none⟩ (.bool true)):=by
 have hz:=hb.size;obtain⟨W8,M3⟩:∃W8,((W'.setCell ⟨w.heap.size+1+1+1,0,none⟩ (.slice A' dI.length cap')).setCell ⟨w.heap.size+1+1+1+1,0,none⟩ (.int .i64 (iU dI cs d))).setCell ⟨w.heap.size+1+1+1+1+1,0,none⟩ (.bool true)=W8:=⟨_,rfl⟩;have hs8:W8.heap.size=W'.heap.size:=by rw[<-M3];simp[World.setCell]
 have YO:W8.os=W'.os∧W8.tape=W'.tape∧W8.output=W'.output:=by rw[<-M3];exact⟨rfl,rfl,rfl⟩
 have D7:∀k:Nat,k≠w.heap.size+1+1+1->k≠w.heap.size+1+1+1+1->k≠w.heap.size+1+1+1+1+1->W8.heap[k]?=W'.heap[k]?:= λk h1 h2 h3=>by rw[<-M3,iO h3,iO h2,iO h1]
 have g3:W8.heap[w.heap.size+1+1+1]?=some (.cells #[.slice A' d.length cap'] 22):=by rw[<-M3,iO (by omega),iO (by omega),vK ((hk _ (by omega)).trans h6.g3),hd.1]
 have g4:W8.heap[w.heap.size+1+1+1+1]?=some (.cells #[.int .i64 (iU dI cs d)] 3):=by rw[<-M3,iO (by omega),vK];rw[iO (by omega)];exact(hk _ (by omega)).trans h6.g4
 have g5:W8.heap[w.heap.size+1+1+1+1+1]?=some (.cells #[.bool true] 4):=by rw[<-M3,vK];rw[iO (by omega),iO (by omega)];exact(hk _ (by omega)).trans h6.g5
 rw[M3];clear M3;refine⟨⟨by omega, λk hk'=>(D7 k (by omega) (by omega) (by omega)).trans (hk k (by omega))⟩,?_,by omega,A',cap',d,iU dI cs d,true,⟨?_,?_,?_,g3,g4,g5⟩,iq.take hd hv hok hx, λhn=>?_,by rw[hd.1];exact hl6⟩
 .exact hb.trans ⟨YO.1.trans hos,YO.2.1.trans hta,YO.2.2.trans hou,by omega, λk hk'=>(D7 k (by omega) (by omega) (by omega)).trans (hk k (by omega))⟩
 .exact(D7 _ (by omega) (by omega) (by omega)).trans ((hk _ (by omega)).trans h6.g0)
 .exact(D7 _ (by omega) (by omega) (by omega)).trans ((hk _ (by omega)).trans h6.g1)
 .exact(D7 _ (by omega) (by omega) (by omega)).trans ((hk _ (by omega)).trans h6.g2)
 .obtain⟨g,e,h1,h2,h3⟩:=hw hn;exact⟨g,e,h1,by omega, λj hj=>(dm (D7 g (by omega) (by omega) (by omega))).trans (h3 j hj)⟩
def Lo.O8{w:World}{B:Nat}{dI:List (Int×Int)}{cs:List (Int×Int×Int)}{A1 A2:Option Addr}{c1 c2:Nat}(h1:YM w B A1 dI)(h2:YN w B A2 cs)(hB:B<=w.heap.size)(limit:Int)(hz:fI dI cs limit=0):
 Calls Lo.prog 20 #[.slice A1 dI.length c1,.slice A2 cs.length c2,.int .i64 limit] w (oN w dI cs limit):=by
 obtain⟨U,U2,U3,U4,U5,U6⟩:=Lo.facts;have C:=Lo.call Tryz.func47;have C2:=Lo.call Tryz.func48;have C3:=Lo.call Tryz.func49;have C4:=Lo.call Tryz.func50;have C5:=Lo.call Tryz.func51;have g:=Sv hz;have hn:=g.nl;have hm:=g.nc;have HX:=dw (aM hz (aM h1 (aM h2 g)));clear hz h1 h2 g;refine(callsIn_wide (n:=3)).1 ?_
 refine callsIn_of_wp_marks (Lo.get Tryz.func20) rfl trivial ?_
 refine wpIn_wide.2 ?_
 simp only[Tryz.ntmps20,List.size_toArray,List.length_cons,List.length_nil,Nat.reduceAdd,Nat.reduceSub,Array.replicate_succ,Array.replicate_zero,List.push_toArray,List.append_toArray,List.nil_append,List.cons_append];go_wp2
 go_step3
 go_wp2_with(go_at_call 47;refine(Lo.uW (B:=B) (HX.out.2.1.keep λb o h=>dH (Du _ _ _ _ _ _ _) b o (by omega)) (HX.out.2.2.1.keep λb o h=>dH (Du _ _ _ _ _ _ _) b o (by omega)) (by omega) (by omega) (by simp;omega) _).mono ?_;rintro e w1⟨rfl,hb1⟩;rw[HX.out.1];obtain⟨hsx,hbw,hsz⟩:=E8 hb1;clear hb1;have e0:=eY hsx.g0;have e1:=eY hsx.g1;have HS:=dw (aM hsx hbw);clear hsx hbw)
 go_step3
 go_wp2_with(go_at_call 48;refine(Lo.Lj _ _ _).mono ?_;rintro e w2⟨rfl,rfl⟩)
 obtain⟨W2,hW2⟩:∃W2,(w1.alloc (.cells #[.int .i64 (dI.length:Int)] 3)).alloc (.cells #[.int .i64 (cs.length:Int)] 3)=W2:=⟨_,rfl⟩;have hs2:w1.heap.size+2<=W2.heap.size:=by rw[<-hW2];simp
 have hbw2:Below w1.heap.size w1 W2:=by rw[<-hW2];exact((di _ _).alloc (aJ _) _).alloc (by simp) _
 have hc1:W2.cell? ⟨w1.heap.size,0,none⟩=some (.int .i64 (dI.length:Int)):=by rw[<-hW2];simp
 have hc2:W2.cell? ⟨w1.heap.size+1,0,none⟩=some (.int .i64 (cs.length:Int)):=by have h:=cK (w1.alloc (.cells #[.int .i64 (dI.length:Int)] 3)) (.cells #[.int .i64 (cs.length:Int)] 3);rw[World.size_alloc]at h;rw[<-hW2];exact eY h
 have hI0:M0 w W2.heap.size (.cells #[.slice A1 dI.length c1] 23) (.cells #[.slice A2 cs.length c2] 61) (.cells #[.int .i64 limit] 3) dI cs limit 0 W2:=
  ⟨HS.out.2.trans (hbw2.mono (by omega)),aJ _,none,0,[],0,false,HS.out.1.keep λk h1 h2=>hbw2.block k (by omega),qE.start _ _ _, λh=>absurd h (by simp),by simp⟩
 have HI0:=dw hI0;rw[hW2];clear hI0 hW2 e0 e1 HS
 refine(wpIn_wide (n:=3)).1 (xz rfl (by omega) (gf:=89) (lb:= #[.pointer (some ⟨w1.heap.size,0,none⟩),.pointer (some ⟨w1.heap.size+1,0,none⟩)]) rfl trivial (Lo.call Tryz.func89) (Lo.Vw 2 hn hm hc1 hc2 (by omega) (by omega)) (di _ _) rfl (λk hk=>by rcases hk with rfl|rfl<;>omega)
  (M0 w W2.heap.size (.cells #[.slice A1 dI.length c1] 23) (.cells #[.slice A2 cs.length c2] 61) (.cells #[.int .i64 limit] 3) dI cs limit) (λi A B h ho=>h.off (by omega) ho) HI0.out ?_ ?assign ?body ?done)
 case assign=>
  intro l W K hK
  gi_wp2
  exact hK
 case body=>
  rintro l i W o hlen hI ho⟨d,hd,hv,rfl⟩;obtain⟨hbel,hsz2,Ad,cap,who,hours,found,h6,iq,iJ,hwl⟩:=hI;have e1:=eY h6.g1;have hmk:=Lo.run_make cs.length (by omega);have HB:=dw (aM hbel (aM h6 (aM iq (aM iJ (aM hd hv)))));have HO:=dw ho;clear hbel h6 iq iJ hd hv ho
  gi_wp2
  have hno:∀{Q':Exit->Act->World->Prop},True:= λ{_}=>trivial
  clear hno
  gi_loopw [13,35] (λy i wr=>∃k:Nat,k<=dI.length∧y=.int .i64 (iY dI cs d k)∧i=.int .i64 (k:Int)∧iY dI cs d k<=limit∧wr.heap[W.heap.size]?=some (LI (qd dI cs d k))∧Off W.heap.size W.heap.size W wr)
   (λ_ i _=>dI.length-(intOf i).toNat)
  case atStart=>
   refine⟨0,bg _,by rw[y7],rfl,?_,?_,Off.alloc _ _ _ _⟩
   .rw[y7];exact HX.out.2.2.2.lim.1
   .rw[cK,Ld]
  case round=>
   obtain⟨k,hk,rfl,rfl,hyl,hbz,hoff⟩:=hrel;obtain⟨hbel,h6,iq,iJ,hd,hv⟩:=HB.out;have hWs:W2.heap.size+2<W.heap.size:=(aI.1 HO.out).1
   by_cases hlt:k<dI.length
   .have ah3:(k:Int)<(dI.length:Int):=by omega
    have hkd:k<d.length:=by rw[hd.1];exact hlt
    have hxm:=hd.2 _ (aX hkd);obtain⟨lb,lo,rfl,hlb,hlc⟩:=HX.out.2.1 (by omega);obtain⟨cb,co,rfl,hcb,hcc⟩:=HX.out.2.2.1 (by omega);have k4:=y8 HO.out (k:=k) (by rw[uY];exact hkd);rw[MX hkd]at k4;have hbs:=Le cs hlt hkd;have hys:=tH cs hlt hkd;obtain⟨x,hx⟩:∃x,d[k]=x:=⟨_,rfl⟩;rw[hx]at hxm k4 hbs hys;have bnd:=HX.out.2.2.2.bnd hd k hk;have xv:=bnd.2 x;have u1:=HX.out.2.2.2.wR hlt hxm;have u2:=HX.out.2.2.2.bj hlt hxm;have u3:=HX.out.2.2.2.Ek hlt hxm;have yv:=HX.out.2.2.2.lot _ (aX hlt);have Xd:=HX.out.2.2.2.kv _ (aX hxm);have Xe:=HX.out.2.2.2.errs _ (aX hxm);have k1:=(Si hlc hlt).2;have k2:=(Lb hcc hxm).1;have k3:=(Lb hcc hxm).2.2;have k5:=y8 hbz (k:=x) (by rw[kC];exact hxm)
    have zv:(qd dI cs d k)[x]'(by rw[kC];exact hxm)=jV (dI.take k) cs (d.take k) x:=by have :=yZ dI cs d k hxm;rw[aN (by rw[kC];exact hxm)]at this;exact aT this
    rw[zv]at k5;have f5:=E5 hbz x;rw[aN hxm,ak]at u1 u2 u3 hbs hys;obtain⟨h,hh⟩:∃h,dI[k].2=h:=⟨_,rfl⟩;obtain⟨p,hp⟩:∃p,cs[x].1=p:=⟨_,rfl⟩;obtain⟨er,her⟩:∃er,cs[x].2.2=er:=⟨_,rfl⟩;rw[hh]at u1 u2 u3 yv hbs hys k1;rw[hp]at u1 Xd hbs k2;rw[her]at u2 u3 Xe hys k3
    have hF:∀X:World,(∀b,b<W.heap.size->X.heap[b]?=W.heap[b]?)->X.cell? ⟨w.heap.size,0,none⟩=some (.slice (some ⟨lb,lo,none⟩) dI.length c1)∧X.cell? ⟨w.heap.size+1,0,none⟩=some (.slice (some ⟨cb,co,none⟩) cs.length c2)∧X.cell? ⟨w.heap.size+1+1,0,none⟩=some (.int .i64 limit)∧
     X.cell? ⟨w.heap.size+1+1+1+1,0,none⟩=some (.int .i64 hours)∧X.cell? ⟨w.heap.size+1+1+1+1+1,0,none⟩=some (.bool found)∧X.cell? ⟨W2.heap.size+2,k,none⟩=some (.int .i64 (x:Int))∧X.cell? ⟨lb,lo+k*2+1,none⟩=some (.int .i64 h)∧X.cell? ⟨cb,co+x*3,none⟩=some (.int .i64 p)∧X.cell? ⟨cb,co+x*3+1+1,none⟩=some (.int .i64 er):= λX hX=>by
     have old:∀b o,b<B->X.cell? ⟨b,o,none⟩=w.cell? ⟨b,o,none⟩:= λb o hb=>dm ((hX b (by omega)).trans (hbel.block b (by omega)))
     exact⟨eY ((hX _ (by omega)).trans h6.g0),eY ((hX _ (by omega)).trans h6.g1),eY ((hX _ (by omega)).trans h6.g2),eY ((hX _ (by omega)).trans h6.g4),eY ((hX _ (by omega)).trans h6.g5),(dm (hX _ hWs)).trans k4,(old _ _ hlb).trans k1,(old _ _ hcb).trans k2,(old _ _ hcb).trans k3⟩
    have au4:(k:Int)<(dI.length:Int):=by omega
    have au5:(x:Int)<(cs.length:Int):=by omega
    obtain⟨q0,q1,q2,q3,q4,q5,q6,q7,q8⟩:=hF wr λb hb=>hoff.block b hb (by omega)
    have HN:=dw (aM hyl (aM hbz (aM hoff (aM hbs (aM hys (aM bnd (aM hF (aM hx hlt))))))));obtain⟨y,hy⟩:∃y,iY dI cs d k=y:=⟨_,rfl⟩;obtain⟨bv,hbv⟩:∃bv,jV (dI.take k) cs (d.take k) x=bv:=⟨_,rfl⟩;rw[hbv]at k5 xv;rw[hy]at bnd;have HV:=dw (aM hy (aM hbv (aM hh (aM hp her))));clear hyl hbz hoff hbs hys hF hy hbv hh hp her hbel h6 iq iJ hd hv hlc hcc zv hx k1 k2 k3 k4 hlb hcb;rw[HV.out.1]
    gi_wp2
    refine AV 17 ?hQ Lo.mixed (by kernel_rfl) (by kernel_rfl) ?_
    case hQ=>
     rintro⟨a,w,h⟩;exact Exit.noConfusion (show Exit.outgrown=Exit.normal from h.1)
    simp only[List.take_succ_cons,List.take_zero,List.drop_succ_cons,List.drop_zero]
    repeat still_step
    still_call ((Lo.Sd h p (by omega) (by omega) _).mono (by rintro e w1⟨rfl,rfl⟩;exact⟨rfl,rfl⟩))
    have hw1:wrap64 (bv+(h+p-1)/ p)=bv+(h+p-1)/ p:=by have:(h+p-1)/ p=Lc h p:=rfl;rw[this];unfold wrap64;omega
    repeat still_step
    refine wpStill_nil ?_
    change wpList _ _ _ _ _ wr.drew;go_wp2;obtain⟨n1,n2,n3,n4,n5,n6,n7,n8⟩:=HN.out;obtain⟨v1,v2,v3,v4,v5⟩:=HV.out;obtain⟨W5,ed⟩:∃W5,(wr.setCell ⟨W.heap.size,x,none⟩ (.int .i64 (bv+(h+p-1)/ p))).drew=W5:=⟨_,rfl⟩;have PV:Off W.heap.size W.heap.size W W5:=by rw[<-ed];exact n3.trans ((Off.grown (b:=W.heap.size) ⟨W.heap.size,x,none⟩ _ rfl).trans (Off.drew _ _ _))
    have hb5:W5.heap[W.heap.size]?=some (LI (qd dI cs d (k+1))):=by rw[<-ed,n4,v2];exact Lg (W:=wr) n2 x (bv+(h+p-1)/ p)
    have j5:=y8 hb5 (k:=x) (by rw[kC];exact hxm)
    have jb:(qd dI cs d (k+1))[x]'(by rw[kC];exact hxm)=jV (dI.take (k+1)) cs (d.take (k+1)) x:=by have :=yZ dI cs d (k+1) hxm;rw[aN (by rw[kC];exact hxm)]at this;exact aT this
    rw[jb]at j5;rw[hw1,ed];have hq:=n7 W5 λb hb=>PV.block b hb (by omega)
    have H5:=dw (aM ed (aM PV (aM hb5 hq)));clear ed PV hb5 q0 q1 q2 q3 q4 q5 q6 q7 q8 k5 f5 n1 n2 n3 n4 n5 n6 n7 n8 v1 v2 v3 v4 v5 hq hw1;obtain⟨q0,q1,q2,q3,q4,q5,q6,q7,q8⟩:=H5.out.2.2.2;have hw2:IntKind.i64.wrap (h*er)=h*er:=by rw[cB];omega
    have hw3:IntKind.i64.wrap (y+(h*er+1000-1)/ 1000)=y+(h*er+1000-1)/ 1000:=by have:(h*er+1000-1)/ 1000=Lc (h*er) 1000:=rfl;rw[this,cB];omega
    gi_wp2
    refine AV 15 ?hQ2 Lo.mixed (by kernel_rfl) (by kernel_rfl) ?_
    case hQ2=>
     rintro⟨a,w,h⟩;exact Exit.noConfusion (show Exit.outgrown=Exit.normal from h.1)
    simp only[List.take_succ_cons,List.take_zero,List.drop_succ_cons,List.drop_zero]
    repeat still_step
    still_call ((Lo.Sd (h*er) 1000 (by omega) (by omega) _).mono (by rintro e w1⟨rfl,rfl⟩;exact⟨rfl,rfl⟩))
    repeat still_step
    refine wpStill_nil ?_
    change wpList _ _ _ _ _ W5.drew;go_wp2;obtain⟨W6,Z9⟩:∃W6,W5.drew=W6:=⟨_,rfl⟩;obtain⟨y2,hy2⟩:∃y2,y+(h*er+1000-1)/ 1000=y2:=⟨_,rfl⟩;obtain⟨UV,YP⟩:∃UV,jV (dI.take (k+1)) cs (d.take (k+1)) x=UV:=⟨_,rfl⟩;rw[Z9,hy2];rw[YP]at j5;have hq:=HN.out.2.2.2.2.2.2.1 W6 λb hb=>by rw[<-Z9];exact H5.out.2.1.block b hb (by omega)
    have Hv:Off W.heap.size W.heap.size W W6:=by rw[<-Z9];exact H5.out.2.1.trans (Off.drew _ _ _)
    have hb6:W6.heap[W.heap.size]?=some (LI (qd dI cs d (k+1))):=by rw[<-Z9];exact H5.out.2.2.1
    have j6:W6.cell? ⟨W.heap.size,x,none⟩=some (.int .i64 UV):=by rw[<-Z9];exact j5
    have fw:iY dI cs d (k+1)=y2:=by rw[HN.out.2.2.2.2.1,HV.out.1, <-hy2];rfl
    have H6:=dw (aM Hv (aM hb6 (aM hq (aM fw (aM YP j6)))));clear hq Hv hb6 fw YP Z9 hy2 j5 j6 q0 q1 q2 q3 q4 q5 q6 q7 q8 u1 u2 u3 yv Xd Xe hw2 hw3 bnd xv H5;have q2:=H6.out.2.2.1.2.2.1;have q3:=H6.out.2.2.1.2.2.2.1;have q4:=H6.out.2.2.1.2.2.2.2.1;have j6:=H6.out.2.2.2.2.2;have hmx:=@Lo.mixed inferInstance
    by_cases hyl:limit<y2
    .gi_wp2
     refine qF ?hQ3 hmx (by kernel_rfl) (by kernel_rfl) ?_
     case hQ3=>
      rintro⟨a,w,h⟩;exact Exit.noConfusion (show Exit.outgrown=Exit.normal from h.1)
     repeat(go_big_quiet_step (fail))
     refine wpQuiet_nil ?_
     intro _ hw';obtain⟨nq,hw''⟩:=hw';subst hw''
     gi_wp2
     obtain⟨hbel,h6,iq,iJ,hd,hv⟩:=HB.out;refine M0.pass (W':=W6.drewN nq) hWs (by omega) (by omega) (by omega) hbel h6 iq iJ hwl hd hv (H6.out.1.trans (Off.drewN _ _ _ _)) λhok=>absurd hok ?_
     have h1:=(HX.out.2.2.2.mono hd (k+1) (dI.length-(k+1)) (by omega)).1;rw[H6.out.2.2.2.1]at h1;unfold Bf;omega
    .have au6:decide (limit<y2)=false:=by simp;omega
     cases found with
     |false=>
      gi_wp2
      refine qF ?hQ4 hmx (by kernel_rfl) (by kernel_rfl) ?_
      case hQ4=>
       rintro⟨a,w,h⟩;exact Exit.noConfusion (show Exit.outgrown=Exit.normal from h.1)
      repeat(go_big_quiet_step (fail))
      refine wpQuiet_nil ?_
      intro _ hw';obtain⟨nq,hw''⟩:=hw';subst hw''
      gi_wp2
      refine⟨⟨k+1,HN.out.2.2.2.2.2.2.2.2,by rw[H6.out.2.2.2.1],by go_num,by rw[H6.out.2.2.2.1];exact hyl,H6.out.2.1,H6.out.1.trans (Off.drewN _ _ _ _)⟩,?_⟩;have hlt2:=HN.out.2.2.2.2.2.2.2.2;simp[intOf];omega
     |true=>
      by_cases Fk:hours<=UV
      .have ap2:decide (hours<=UV)=true:=by simpa using Fk
       gi_wp2
       refine qF ?hQ5 hmx (by kernel_rfl) (by kernel_rfl) ?_
       case hQ5=>
        rintro⟨a,w,h⟩;exact Exit.noConfusion (show Exit.outgrown=Exit.normal from h.1)
       repeat(go_big_quiet_step (fail))
       refine wpQuiet_nil ?_
       intro _ hw';obtain⟨nq,hw''⟩:=hw';subst hw''
       gi_wp2
       obtain⟨hbel,h6,iq,iJ,hd,hv⟩:=HB.out;refine M0.pass (W':=W6.drewN nq) hWs (by omega) (by omega) (by omega) hbel h6 iq iJ hwl hd hv (H6.out.1.trans (Off.drewN _ _ _ _)) λ_=>⟨rfl,?_⟩
       have h1:=(HX.out.2.2.2.mono hd (k+1) (dI.length-(k+1)) (by omega)).2 x;rw[H6.out.2.2.2.2.1]at h1;exact Int.le_trans Fk (Int.le_trans h1 (El hxm))
      .have ap2:decide (hours<=UV)=false:=by simpa using Fk
       gi_wp2
       refine qF ?hQ6 hmx (by kernel_rfl) (by kernel_rfl) ?_
       case hQ6=>
        rintro⟨a,w,h⟩;exact Exit.noConfusion (show Exit.outgrown=Exit.normal from h.1)
       repeat(go_big_quiet_step (fail))
       refine wpQuiet_nil ?_
       intro _ hw';obtain⟨nq,hw''⟩:=hw';subst hw''
       gi_wp2
       refine⟨⟨k+1,HN.out.2.2.2.2.2.2.2.2,by rw[H6.out.2.2.2.1],by go_num,by rw[H6.out.2.2.2.1];exact hyl,H6.out.2.1,H6.out.1.trans (Off.drewN _ _ _ _)⟩,?_⟩;have hlt2:=HN.out.2.2.2.2.2.2.2.2;simp[intOf];omega
   .obtain rfl:k=dI.length:=by omega
    rw[Lf hd]at hbz;rw[GA hd]at hyl;have ah3:¬(dI.length:Int)<(dI.length:Int):=by omega
    have hbl:(tZ dI cs d).length=cs.length:=by simp[tZ]
    have hrd:=Xc hbz (Nat.lt_succ_self W.heap.size);have hmax:=Lo.Vt (c:=cs.length) hrd (by rw[hbl];omega) (by rw[hbl];omega) (aI.1 hbz).1;rw[hbl]at hmax;obtain⟨mx,hmx⟩:∃mx,iU dI cs d=mx:=⟨_,rfl⟩;rw[show zU (tZ dI cs d) (((tZ dI cs d)[0]?).getD 0)=mx from hmx]at hmax;have HM:=dw (aM hmax (aM hyl (aM hoff (aM hmx hd))));clear hmax hrd hyl hbz hoff hbel h6 iq iJ hd hv hmx
    have arm:∀w5:World,Below wr.heap.size wr w5->(∀k,k<W.heap.size->w5.heap[k]?=W.heap[k]?)∧W.heap.size<=w5.heap.size∧w5.os=W.os∧w5.tape=W.tape∧w5.output=W.output:= λw5 hb5=>by have ho:=HM.out.2.2.1;have :=ho.size;exact⟨λk hk=>(hb5.block k (by omega)).trans (ho.block k hk (by omega)),aS this hb5.size,hb5.os.trans ho.os,hb5.tape.trans ho.tape,hb5.output.trans ho.output⟩
    have HA:=dw arm;clear arm
    by_cases Xf:found=true∧hours<=mx
    .obtain⟨rfl,hle⟩:=Xf;have hnl:¬mx<hours:=by omega
     gi_wp2_with (refine⟨trivial,?_⟩;gi_at_call 50;refine(CallsIn.inRound l (callsIn_wide.2 HM.out.1)).mono ?_;rintro e w5⟨rfl,hb5⟩;obtain⟨hk5,fd,PV,Xg,Xh⟩:=HA.out w5 hb5;have m4:=eY ((hk5 _ (by omega)).trans HB.out.2.1.g4);have m5:=eY ((hk5 _ (by omega)).trans HB.out.2.1.g5);have H5:=dw (aM hk5 (aM PV (aM Xg Xh)));clear hk5 PV Xg Xh hb5)
     obtain⟨hbel,h6,iq,iJ,hd,hv⟩:=HB.out;have vg:=M0.pass (b1:=w1.heap.size) (b2:=w1.heap.size+1) (W':=w5) hWs (by omega) (by omega) (by omega) hbel h6 iq iJ hwl hd hv ⟨H5.out.2.1,H5.out.2.2.1,H5.out.2.2.2,fd, λk hk _=>H5.out.1 k hk⟩ (λ_=>⟨rfl,by rw[HM.out.2.2.2.1];exact hle⟩);exact⟨vg.1.2,vg.2⟩
    .have hx:found=true->mx<hours:= λh=>by
      have:¬hours<=mx:= λh2=>Xf ⟨h,h2⟩
      omega
     cases found with
     |false=>
      gi_wp2_with (first
       |(refine⟨trivial,?_⟩;gi_at_call 50;refine(CallsIn.inRound l (callsIn_wide.2 HM.out.1)).mono ?_;rintro e w5⟨rfl,hb5⟩;obtain⟨hk5,fd,PV,Xg,Xh⟩:=HA.out w5 hb5;have m4:=eY ((hk5 _ (by omega)).trans HB.out.2.1.g4);have m5:=eY ((hk5 _ (by omega)).trans HB.out.2.1.g5);have H5:=dw (aM hk5 (aM PV (aM Xg Xh)));clear hk5 PV Xg Xh hb5)
       |(refine⟨trivial,?_⟩;gi_at_call 51;refine(CallsIn.inRound l (callsIn_wide.2 (Lo.Jo (lo:=W2.heap.size+2) ((H5.out.1 _ hWs).trans HO.out) HM.out.2.2.2.2.1 hn (by omega)))).mono ?_;rintro e w7⟨A',cap',rfl,hw7,Uk⟩;have Jp:∀k,k<W.heap.size->w7.heap[k]?=W.heap[k]?:= λk hk=>(Uk.block k (by omega)).trans (H5.out.1 k hk);have m3:=eY ((Jp _ (by omega)).trans HB.out.2.1.g3);have m4:=eY ((Jp _ (by omega)).trans HB.out.2.1.g4);have m5:=eY ((Jp _ (by omega)).trans HB.out.2.1.g5);have n3:=iE ((Jp _ (by omega)).trans HB.out.2.1.g3);have n4:=iE ((Jp _ (by omega)).trans HB.out.2.1.g4);have n5:=iE ((Jp _ (by omega)).trans HB.out.2.1.g5);have H7:=dw (aM Jp (aM hw7 Uk));clear Jp hw7 Uk))
      obtain⟨hbel,h6,iq,iJ,hd,hv⟩:=HB.out;rw[<-HM.out.2.2.2.1];have vg:=M0.take (b1:=w1.heap.size) (b2:=w1.heap.size+1) (A':=A') (cap':=cap') hWs (by omega) (by omega) hbel h6 iq hn hd hv (H7.out.2.2.os.trans H5.out.2.1) (H7.out.2.2.tape.trans H5.out.2.2.1) (H7.out.2.2.output.trans H5.out.2.2.2) (aS fd H7.out.2.2.size) H7.out.1 H7.out.2.1 HM.out.2.1 (λh=>by cases h);exact⟨⟨by simpa[World.setCell]using vg.1.1,vg.1.2⟩,vg.2⟩
     |true=>
      have hx':=hx rfl
      gi_wp2_with (first
       |(refine⟨trivial,?_⟩;gi_at_call 50;refine(CallsIn.inRound l (callsIn_wide.2 HM.out.1)).mono ?_;rintro e w5⟨rfl,hb5⟩;obtain⟨hk5,fd,PV,Xg,Xh⟩:=HA.out w5 hb5;have m4:=eY ((hk5 _ (by omega)).trans HB.out.2.1.g4);have m5:=eY ((hk5 _ (by omega)).trans HB.out.2.1.g5);have H5:=dw (aM hk5 (aM PV (aM Xg Xh)));clear hk5 PV Xg Xh hb5)
       |(refine⟨trivial,?_⟩;gi_at_call 51;refine(CallsIn.inRound l (callsIn_wide.2 (Lo.Jo (lo:=W2.heap.size+2) ((H5.out.1 _ hWs).trans HO.out) HM.out.2.2.2.2.1 hn (by omega)))).mono ?_;rintro e w7⟨A',cap',rfl,hw7,Uk⟩;have Jp:∀k,k<W.heap.size->w7.heap[k]?=W.heap[k]?:= λk hk=>(Uk.block k (by omega)).trans (H5.out.1 k hk);have m3:=eY ((Jp _ (by omega)).trans HB.out.2.1.g3);have m4:=eY ((Jp _ (by omega)).trans HB.out.2.1.g4);have m5:=eY ((Jp _ (by omega)).trans HB.out.2.1.g5);have n3:=iE ((Jp _ (by omega)).trans HB.out.2.1.g3);have n4:=iE ((Jp _ (by omega)).trans HB.out.2.1.g4);have n5:=iE ((Jp _ (by omega)).trans HB.out.2.1.g5);have H7:=dw (aM Jp (aM hw7 Uk));clear Jp hw7 Uk))
      obtain⟨hbel,h6,iq,iJ,hd,hv⟩:=HB.out;rw[<-HM.out.2.2.2.1];have vg:=M0.take (b1:=w1.heap.size) (b2:=w1.heap.size+1) (A':=A') (cap':=cap') hWs (by omega) (by omega) hbel h6 iq hn hd hv (H7.out.2.2.os.trans H5.out.2.1) (H7.out.2.2.tape.trans H5.out.2.2.1) (H7.out.2.2.output.trans H5.out.2.2.2) (aS fd H7.out.2.2.size) H7.out.1 H7.out.2.1 HM.out.2.1 (λ_=>by rw[HM.out.2.2.2.1];exact hx');exact⟨⟨by simpa[World.setCell]using vg.1.1,vg.1.2⟩,vg.2⟩
 case done=>
  rintro W⟨hbel,hsz2,Ad,cap,who,hours,found,h6,iq,iJ,hwl⟩hK;have e3:=eY h6.g3;have e4:=eY h6.g4;have e5:=eY h6.g5;have f3:=iE h6.g3;have f4:=iE h6.g4;have f5:=iE h6.g5;go_wp2;have HE:=dw (aM hbel (aM h6 (aM iq (aM iJ hK))));clear hbel h6 iq iJ hK
  go_region
  go_wp2;obtain⟨hbel,h6,iq,iJ,hK⟩:=HE.out;rw[Exit.noGoto_ret];have kw:=hbel.size;obtain⟨W8,M3⟩:∃W8,(((W.setCell ⟨w.heap.size+1+1+1,0,none⟩ (.slice Ad who.length cap)).setCell ⟨w.heap.size+1+1+1+1,0,none⟩ (.int .i64 hours)).setCell ⟨w.heap.size+1+1+1+1+1,0,none⟩ (.bool found)).drew=W8:=⟨_,rfl⟩;have hs8:W8.heap.size=W.heap.size:=by rw[<-M3];simp[World.setCell,World.drew]
  have YO:W8.os=W.os∧W8.tape=W.tape∧W8.output=W.output:=by rw[<-M3];exact⟨rfl,rfl,rfl⟩
  have od:∀k:Nat,W8.heap[k]?=(((W.setCell ⟨w.heap.size+1+1+1,0,none⟩ (.slice Ad who.length cap)).setCell ⟨w.heap.size+1+1+1+1,0,none⟩ (.int .i64 hours)).setCell ⟨w.heap.size+1+1+1+1+1,0,none⟩ (.bool found)).heap[k]?:= λk=>by rw[<-M3];rfl
  have g3:W8.heap[w.heap.size+1+1+1]?=some (.cells #[.slice Ad who.length cap] 22):=by rw[od,iO (by omega),iO (by omega),vK h6.g3]
  have g4:W8.heap[w.heap.size+1+1+1+1]?=some (.cells #[.int .i64 hours] 3):=by rw[od,iO (by omega),vK];rw[iO (by omega)];exact h6.g4
  have g5:W8.heap[w.heap.size+1+1+1+1+1]?=some (.cells #[.bool found] 4):=by rw[od,vK];rw[iO (by omega),iO (by omega)];exact h6.g5
  have D7:∀k:Nat,k≠w.heap.size+1+1+1->k≠w.heap.size+1+1+1+1->k≠w.heap.size+1+1+1+1+1->W8.heap[k]?=W.heap[k]?:= λk h1 h2 h3=>by rw[od,iO h3,iO h2,iO h1]
  rw[M3];have hK8:W8.heap[W2.heap.size]?=some (.deferred (some [])):=(D7 _ (by omega) (by omega) (by omega)).trans hK
  clear M3 od;refine⟨by simp,.inl ⟨_,_,rfl,run_takeDeferred hK8,?_⟩⟩;have p3:=(World.putObj_heap_other (w:=W8) (r:=W2.heap.size) (o:=.deferred none) (k:=w.heap.size+1+1+1) (by omega)).trans g3;have p4:=(World.putObj_heap_other (w:=W8) (r:=W2.heap.size) (o:=.deferred none) (k:=w.heap.size+1+1+1+1) (by omega)).trans g4;have p5:=(World.putObj_heap_other (w:=W8) (r:=W2.heap.size) (o:=.deferred none) (k:=w.heap.size+1+1+1+1+1) (by omega)).trans g5;refine⟨_,Lo.uv rfl rfl rfl rfl (eY p3) (eY p4) (eY p5),?_⟩;have hB8:Below w.heap.size w (W8.putObj W2.heap.size (.deferred none)):=hbel.trans ⟨YO.1,YO.2.1,YO.2.2,by rw[World.putObj_size];omega, λk hk=>(World.putObj_heap_other (w:=W8) (r:=W2.heap.size) (o:=.deferred none) (by omega)).trans (D7 k (by omega) (by omega) (by omega))⟩;show oN _ _ _ _ _ _;unfold oN;refine⟨hB8,?_⟩;rw[HX.out.1,aa (by simp)];refine⟨_,_,_,_,_,rfl,iq, λhn=>?_⟩;obtain⟨g,e,h1,h2,h3⟩:=iJ hn;exact⟨g,e,by omega,by rw[World.putObj_size];omega, λj hj=>(dm (a:=⟨g,j,none⟩) ((World.putObj_heap_other (w:=W8) (r:=W2.heap.size) (o:=.deferred none) (k:=g) (by omega)).trans (D7 g (by omega) (by omega) (by omega)))).trans (h3 j hj)⟩
def Lo.O9{w:World}{B:Nat}{dI:List (Int×Int)}{cs:List (Int×Int×Int)}{A1 A2:Option Addr}{c1 c2:Nat}(h1:YM w B A1 dI)(h2:YN w B A2 cs)(hl1:dI.length<=64)(hl2:cs.length<=64)(hB:B<=w.heap.size)(limit:Int):
 Calls Lo.prog 20 #[.slice A1 dI.length c1,.slice A2 cs.length c2,.int .i64 limit] w (oN w dI cs limit):=by
 by_cases h:fI dI cs limit=0
 .exact Lo.O8 h1 h2 hB limit h
 .exact Lo.Sw h1 h2 hl1 hl2 hB limit h
end
end Go.Proofs
namespace Go.Proofs
open Go Go.RowKit Go.Maps
variable [Lo.St]
def Lo.GD(a b l h:Int)(w:World):Calls Lo.prog 14 #[.agg #[.int .i64 a,.int .i64 b],.int .i64 l,.int .i64 h] w λe w'=>e=.returned (.bool (eT a b l h))∧Below w.heap.size w w':=by
 obtain⟨U,U2,U3,U4,U5,U6⟩:=Lo.facts
 by_cases h1:l<=a
 .by_cases h2:a<=b
  .by_cases h3:b<=h
   .go_enter Lo.get Tryz.func14,Tryz.ntmps14;go_wp2;go_ret;exact⟨by simp[eT,h1,h2,h3],(di _ _).alloc (aJ _) _⟩
   .go_enter Lo.get Tryz.func14,Tryz.ntmps14;go_wp2;go_ret;exact⟨by simp[eT,h1,h2,h3],(di _ _).alloc (aJ _) _⟩
  .go_enter Lo.get Tryz.func14,Tryz.ntmps14;go_wp2;go_ret;exact⟨by simp[eT,h1,h2];intro h;omega,(di _ _).alloc (aJ _) _⟩
 .go_enter Lo.get Tryz.func14,Tryz.ntmps14;go_wp2;go_ret;exact⟨by simp[eT,h1];intro h;omega,(di _ _).alloc (aJ _) _⟩
end Go.Proofs
namespace Go.Proofs
open Go Go.RowKit Go.Maps
section
def gB(b:dO)(i:Nat):List Int:=(b.steps.take i).flatMap dW.outs
def mM(b:dO)(i:Nat):List Int:=(b.steps.take i).flatMap dW.ins
def nJ(L:List (List Int))(p:Int):(L.flatten).contains p=L.any λl=>l.contains p:=by
 induction L with
 |nil=>rfl
 |cons l r ih=>simp only[List.flatten_cons,List.contains_append,List.any_cons,ih]
def zb(l r:List Int)(p:Int):(l++r).contains p=(l.contains p||r.contains p):=by simp
def mq(b:dO)(i:Nat)(s:dW):Int:=
 if kH s.hand 0 ((b.dJ.length:Int)-1)=false then 6 else
 if(oD b.dz.length (gB b i) s.ins (mM b i)).1≠0 then(oD b.dz.length (gB b i) s.ins (mM b i)).1 else
 if(iX b.dz.length s.outs (gB b i)).1≠0 then(iX b.dz.length s.outs (gB b i)).1 else
 if eT s.g0 s.g1 0 1000000=false then 1 else if eT s.l0 s.l1 0 1000000=false then 1 else 0
def Jq{w:World}{B bb off k:Nat}{l:List Int}(hc:∀i j,i<l.length->j<1->w.cell? ⟨bb,off+(i*1+j),none⟩=some (.int .i64 ((l[i]?).getD 0)))(hb:bb<B)(hk:k<=l.length):xJ w B (some ⟨bb,off,none⟩) (l.take k):= λhn=>⟨bb,off,rfl,hb, λi j hi hj=>by rw[List.length_take]at hi;rw[hc i j (by omega) hj];dsimp only;rw[List.getElem?_take,aj (by omega)]⟩
def iH{P:Program}{C:World->Prop}{id:Nat}{Q:Exit->Act->World->Prop}{a:Act}{w:World}{l:List Oper}(hm:P.follows .mixedOrders=true)(hB:Region.lexB .any l.toArray=true)(hC:C w.drew)
 (h:wpQuiet P l.toArray C (λa'=>∀w',C w'->Q .normal a' w') l a):(Code.region id l.toArray true).wp P Q a w:=
 wp_region_quiet (C:=C) hm hB hC (by simpa using h)
def GG(b:dO)(v:gJ):Prop:=∀i s,b.steps[i]?=some s->s.ins.length<=(v.sv i).c1∧s.outs.length<=(v.sv i).c2
variable [Lo.St]
attribute [local irreducible] wpQuiet
end
def Jr{np:Nat}{M:List Int}:∀{l U:List Int},(oD np M l U).1=0->(oD np M l U).2=U++l
 | [],U,_=>by simp[oD]
 |p::r,U,h=>by
  unfold oD at h⊢
  by_cases h1:kH p 0 ((np:Int)-1)=false
  .rw[aj h1]at h;cases h
  rw[aa h1]at h⊢
  by_cases h2:M.contains p=false
  .rw[aj h2]at h;cases h
  rw[aa h2]at h⊢
  by_cases h3:U.contains p=true
  .rw[aj h3]at h;cases h
  rw[aa h3]at h⊢;rw[Jr h,List.append_assoc];rfl
def zX{np:Nat}:∀{l M:List Int},(iX np l M).1=0->(iX np l M).2=M++l
 | [],M,_=>by simp[iX]
 |p::r,M,h=>by
  unfold iX at h⊢
  by_cases h1:kH p 0 ((np:Int)-1)=false
  .rw[aj h1]at h;cases h
  rw[aa h1]at h⊢
  by_cases h2:M.contains p=true
  .rw[aj h2]at h;cases h
  rw[aa h2]at h⊢;rw[zX h,List.append_assoc];rfl
def Dv(b:dO){i:Nat}(h:i<b.steps.length):gB b (i+1)=gB b i++b.steps[i].outs:=by unfold gB;rw[bu h,List.flatMap_append];simp
def Ll(b:dO){i:Nat}(h:i<b.steps.length):mM b (i+1)=mM b i++b.steps[i].ins:=by unfold mM;rw[bu h,List.flatMap_append];simp
def uZ(b:dO)(i:Nat):Int×List Int:=jr b.dJ.length b.dz.length (b.steps.drop i) (gB b i) (mM b i)
def Pd[Lo.St]{b:dO}{i:Nat}(h:i<b.steps.length)(hf:mq b i b.steps[i]≠0):(uZ b i).1=mq b i b.steps[i]:=by
 unfold uZ;rw[uR _ _ _ _ _ _ h];unfold mq at hf⊢
 by_cases h1:kH b.steps[i].hand 0 ((b.dJ.length:Int)-1)=false
 .rw[aj h1,aj h1]
 rw[aa h1]at hf⊢;rw[aa h1]
 by_cases h2:(oD b.dz.length (gB b i) b.steps[i].ins (mM b i)).1≠0
 .rw[aj h2,aj h2]
 rw[aa h2]at hf⊢;rw[aa h2]
 by_cases h3:(iX b.dz.length b.steps[i].outs (gB b i)).1≠0
 .rw[aj h3,aj h3]
 rw[aa h3]at hf⊢;rw[aa h3]
 by_cases h4:eT b.steps[i].g0 b.steps[i].g1 0 1000000=false
 .rw[aj h4,aj h4]
 rw[aa h4]at hf⊢;rw[aa h4]
 by_cases h5:eT b.steps[i].l0 b.steps[i].l1 0 1000000=false
 .rw[aj h5,aj h5]
 .rw[aa h5]at hf;exact absurd rfl hf
def Js[Lo.St]{b:dO}{i:Nat}(h:i<b.steps.length)(hf:mq b i b.steps[i]=0):uZ b i=uZ b (i+1)∧(iX b.dz.length b.steps[i].outs (gB b i)).1=0:=by
 unfold uZ;rw[uR _ _ _ _ _ _ h];unfold mq at hf
 by_cases h1:kH b.steps[i].hand 0 ((b.dJ.length:Int)-1)=false
 .rw[aj h1]at hf;cases hf
 rw[aa h1]at hf⊢
 by_cases h2:(oD b.dz.length (gB b i) b.steps[i].ins (mM b i)).1≠0
 .rw[aj h2]at hf;exact absurd hf h2
 rw[aa h2]at hf⊢
 by_cases h3:(iX b.dz.length b.steps[i].outs (gB b i)).1≠0
 .rw[aj h3]at hf;exact absurd hf h3
 rw[aa h3]at hf⊢
 by_cases h4:eT b.steps[i].g0 b.steps[i].g1 0 1000000=false
 .rw[aj h4]at hf;cases hf
 rw[aa h4]at hf⊢
 by_cases h5:eT b.steps[i].l0 b.steps[i].l1 0 1000000=false
 .rw[aj h5]at hf;cases hf
 rw[aa h5];have e2:=Classical.not_not.1 h2;have e3:=Classical.not_not.1 h3;rw[Jr e2,zX e3,Dv b h,Ll b h];exact⟨rfl,e3⟩
def E9(b:dO):uZ b b.steps.length=(0,gB b b.steps.length):=by unfold uZ;rw[aF];rfl
def Jt{l M:List Int}(hl:l.Nodup)(h:∀x∈l,x∈M):l.length<=M.length:=by
 induction l generalizing M with
 |nil=>exact bg _
 |cons a l ih=>
  have ha:=h a aP;rw[List.nodup_cons]at hl;have :=ih (M:=M.erase a) hl.2 λx hx=>(List.mem_erase_of_ne (by rintro rfl;exact hl.1 hx)).2 (h x (aQ _ hx))
  rw[List.length_erase_of_mem ha]at this;have :=List.length_pos_of_mem ha;rw[List.length_cons];omega
def YQ(n:Nat):List Int:=(List.range n).map Int.ofNat
def Pe(n:Nat):(YQ n).Nodup:=by unfold YQ;rw[List.nodup_iff_pairwise_ne,List.pairwise_map];refine List.Pairwise.imp (λ{a b}h e=>h ?_) (List.nodup_iff_pairwise_ne.1 List.nodup_range);exact Int.ofNat.inj e
def GH{n:Nat}{x:Int}:x∈YQ n↔0<=x∧x<(n:Int):=by
 unfold YQ;rw[List.mem_map];constructor
 .rintro⟨k,hk,rfl⟩;have :=List.mem_range.1 hk;exact⟨by simp,by simpa using this⟩
 .rintro⟨h1,h2⟩;exact⟨x.toNat,List.mem_range.2 (by omega),by simp;omega⟩
def SC{M:List Int}{n:Nat}(h:∀p:Nat,p<n->M.contains (p:Int)=true):n<=M.length:=by
 have :=Jt (Pe n) (M:=M) λx hx=>by obtain⟨h1,h2⟩:=GH.1 hx;have :=h x.toNat (by omega);rw[show((x.toNat:Nat):Int)=x by omega]at this;simpa using this
 simpa[YQ]using this
def Pf{M:List Int}{n p:Nat}(hM:M.Nodup)(hr:∀x∈M,0<=x∧x<(n:Int))(hp:p<n)(hc:M.contains (p:Int)=false):M.length<n:=by
 have hc':(p:Int) ∉ M:=by simpa using hc
 have :=Jt (M:=YQ n) (l:=(p:Int)::M) (List.nodup_cons.2 ⟨hc',hM⟩) λx hx=>by
  rcases bD.1 hx with rfl|hx
  .exact GH.2 ⟨by omega,by omega⟩
  .exact GH.2 (hr x hx)
 simp[YQ]at this;omega
section
variable [Lo.St]
def Ju(b:dO)(k:Nat):Prop:=∀j(h:j<b.steps.length),j<k->mq b j b.steps[j]=0
def Pg{b:dO}{k:Nat}(h:Ju b k)(hk:k<b.steps.length)(hf:mq b k b.steps[k]=0):Ju b (k+1):= λj hj hlt=>by
 by_cases e:j=k
 .subst e;exact hf
 .exact h j hj (by omega)
def tK{b:dO}:∀{k:Nat},Ju b k->k<=b.steps.length->uZ b 0=uZ b k
 |0,_,_=>rfl
 |k+1,h,hk=>by rw[tK (k:=k) (λj hj hlt=>h j hj (by omega)) (by omega)];exact(Js (by omega) (h k (by omega) (by omega))).1
def Dw{b:dO}:∀{k:Nat},Ju b k->k<=b.steps.length->(gB b k).Nodup∧∀x∈gB b k,0<=x∧x<(b.dz.length:Int)
 |0,_,_=>by unfold gB;simp
 |k+1,h,hk=>by
  obtain⟨h1,h2⟩:=Dw (k:=k) (λj hj hlt=>h j hj (by omega)) (by omega);have h3:=(Js (by omega) (h k (by omega) (by omega))).2;rw[Dv b (by omega)];refine⟨zX h3 ▸ uS h1 h3, λx hx=>?_⟩;rcases List.mem_append.1 hx with hx|hx
  .exact h2 x hx
  .have :=Gp h3 x hx;omega
def xA(b:dO):uZ b 0=jr b.dJ.length b.dz.length b.steps [] []:=by unfold uZ gB mM;simp
def Dx{b:dO}{k:Nat}(h:Ju b k)(hk:k<b.steps.length)(hf:mq b k b.steps[k]≠0)(h8:¬8<b.steps.length):fB b=mq b k b.steps[k]:=by
 have e:(jr b.dJ.length b.dz.length b.steps [] []).1=mq b k b.steps[k]:=by rw[<-xA,tK h (by omega),Pd hk hf]
 unfold fB;rw[aa h8,aj (by rw[e];exact hf),e]
def Bg{b:dO}(h:Ju b b.steps.length)(h8:¬8<b.steps.length){p:Nat}(hp:p<b.dz.length)(hc:(gB b b.steps.length).contains (p:Int)=false):fB b=6:=by
 have e:jr b.dJ.length b.dz.length b.steps [] []=(0,gB b b.steps.length):=by rw[<-xA,tK h (aJ _),E9]
 obtain⟨h1,h2⟩:=Dw h (aJ _);unfold fB;rw[aa h8,e,aa (by simp),aj (Pf h1 h2 hp hc)]
def Bh{b:dO}(h:Ju b b.steps.length)(h8:¬8<b.steps.length)(hc:∀p:Nat,p<b.dz.length->(gB b b.steps.length).contains (p:Int)=true):fB b=0:=by
 have e:jr b.dJ.length b.dz.length b.steps [] []=(0,gB b b.steps.length):=by rw[<-xA,tK h (aJ _),E9]
 unfold fB;rw[aa h8,e,aa (by simp),aa (by have :=SC hc;simp;omega)]
def SE{b:dO}(h:¬dP b.dJ 4=0):fG b=dP b.dJ 4:=by unfold fG;rw[aj h]
def SF{b:dO}(h:dP b.dJ 4=0)(h2:¬dP b.dz 12=0):fG b=dP b.dz 12:=by unfold fG;rw[aa (by rw[h];simp),aj h2]
def Dy{b:dO}(h:dP b.dJ 4=0)(h2:dP b.dz 12=0){x:Int}(h3:fB b=x)(hx:x≠0):fG b=x:=by unfold fG;rw[aa (by rw[h];simp),aa (by rw[h2];simp),h3,aj hx]
def SG{b:dO}(h:dP b.dJ 4=0)(h2:dP b.dz 12=0)(h3:fB b=0):fG b=if 10<b.dA.length then 2 else ku b.dz.length b.dA:=by unfold fG;rw[aa (by rw[h];simp),aa (by rw[h2];simp),h3,aa (by simp)]
attribute [local irreducible] wpQuiet
end
section
def mO(l:List ByteArray):Bool:=l.any λs=>decide (100<s.size)
def ve(l:List dW):Bool:=l.any λs=>decide (40<s.ins.length)||decide (40<s.outs.length)
def Dz(b:dO):Bool:=decide (40<b.dJ.length)||decide (40<b.dz.length)||decide (40<b.steps.length)||decide (40<b.dA.length)||mO b.dJ||mO b.dz||ve b.steps
def Vz{b:dO}(h:Dz b=false):b.small:=by
 unfold Dz at h;simp only[Bool.or_eq_false_iff,decide_eq_false_iff_not]at h;obtain⟨⟨⟨⟨⟨⟨h1,h2⟩,h3⟩,h4⟩, -⟩, -⟩,h5⟩:=h;refine⟨by omega,by omega,by omega,by omega, λs hs=>?_, λs hs=>?_⟩
 .have :=List.any_eq_false.1 h5 s hs;simp at this;omega
 .have :=List.any_eq_false.1 h5 s hs;simp at this;omega
def DC{l:List ByteArray}{k:Nat}(h:k<l.length):mO (l.drop k)=(decide (100<l[k].size)||mO (l.drop (k+1))):=by rw[aV h];rfl
def Lm{l:List dW}{k:Nat}(h:k<l.length):ve (l.drop k)=((decide (40<l[k].ins.length)||decide (40<l[k].outs.length))||ve (l.drop (k+1))):=by rw[aV h];rfl
variable [Lo.St]
end
def DD:List eX->List eX->Prop
 | [],[]=>True
 |x::l,y::r=>(y.lo<=x.lo∧x.hi<=y.hi∧x.fr=y.fr∧x.to=y.to)∧DD l r
 |_,_=>False
def DD.refl:∀l,DD l l
 | []=>trivial
 |x::l=>⟨⟨Int.le_refl _,Int.le_refl _,rfl,rfl⟩,DD.refl l⟩
def DD.append:∀{l r l' r':List eX},DD l r->DD l' r'->DD (l++l') (r++r')
 | [],[],_,_,_,h=>h
 |_::_,_::_,_,_,h,h'=>⟨h.1,h.2.append h'⟩
 | [],_::_,_,_,h,_=>h.elim
 |_::_,[],_,_,h,_=>h.elim
def DD.map{A:Type}(f g:A->eX):∀l:List A,(∀a∈l,(g a).lo<=(f a).lo∧(f a).hi<=(g a).hi∧(f a).fr=(g a).fr∧(f a).to=(g a).to)->DD (l.map f) (l.map g)
 | [],_=>trivial
 |a::l,h=>⟨h a aP,DD.map f g l λx hx=>h x (aQ _ hx)⟩
def DD.short{s:Nat}:∀{l r:List eX}{n m:Int},DD l r->m<=n->r.foldl (OJ s) m<=l.foldl (OJ s) n
 | [],[],_,_,_,h=>h
 |x::l,y::r,n,m,⟨⟨h1,h2,h3,h4⟩,h⟩,hm=>by
  rw[List.foldl_cons,List.foldl_cons];refine h.short ?_
  unfold OJ;rw[h3,h4];split
  .omega
  split<;>omega
 | [],_::_,_,_,h,_=>h.elim
 |_::_,[],_,_,h,_=>h.elim
def DD.M4:∀{l r:List eX},DD l r->iQ l=false->iQ r=false
 | [],[],_,_=>rfl
 |x::l,y::r,⟨⟨h1,h2,_,_⟩,h⟩,hc=>by unfold iQ at hc⊢;rw[List.any_cons,Bool.or_eq_false_iff]at hc⊢;refine⟨?_,h.M4 hc.2⟩;have :=hc.1;simp at this⊢;omega
 | [],_::_,h,_=>h.elim
 |_::_,[],h,_=>h.elim
def DD.holds{l r:List eX}{nd:Nat}(h:DD l r)(hl:gN l nd=true):gN r nd=true:=by
 unfold gN at hl⊢;rw[bB]at hl⊢;obtain⟨h1,h2⟩:=hl;refine⟨?_,?_⟩
 .rw[Bool.not_eq_true']at h1⊢;exact h.M4 h1
 .unfold sV at h2⊢;rw[bF]at h2⊢;intro s hs;have :=h2 s hs;simp only[decide_eq_true_eq]at this⊢;exact Int.le_trans (h.short (Int.le_refl 0)) this
def M5(p:Int):∀(l:List jD)(x:Int×Int),x.1<=(l.foldl (PU p) x).1∧(l.foldl (PU p) x).2<=x.2
 | [],x=>⟨Int.le_refl _,Int.le_refl _⟩
 |s::l,x=>by
  rw[List.foldl_cons];obtain⟨h1,h2⟩:=M5 p l (PU p x s)
  have:x.1<=(PU p x s).1∧(PU p x s).2<=x.2:=by
   unfold PU;split
   .dsimp only;omega
   .exact⟨Int.le_refl _,Int.le_refl _⟩
  omega
def VA(l r:List jD)(p:Int):(je l p).1<=(je (l++r) p).1∧(je (l++r) p).2<=(je l p).2:=by unfold je;rw[List.foldl_append];exact M5 p r _
def ai1{b c:dO}(hp:b.dz=c.dz)(hs:b.steps=c.steps){r:List jD}(hc:b.dA=c.dA++r)(hand:Int):DD (fA b hand) (fA c hand):=by
 have e:∀k,fq b hand k=fq c hand k:= λk=>by
  induction k with
  |zero=>rfl
  |succ k ih=>unfold fq;rw[ih,hs]
 unfold fA;rw[e,hp,hs];refine DD.append (DD.append (DD.map _ _ _ λp _=>?_) (DD.refl _)) (DD.refl _);unfold mh;have :=VA c.dA r (p:Int);rw[hc,hs];exact⟨this.1,this.2,rfl,rfl⟩
end Go.Proofs
