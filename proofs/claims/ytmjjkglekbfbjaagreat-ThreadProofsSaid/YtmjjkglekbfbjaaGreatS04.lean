/- Part 4. -/
import Derived.Test.YtmjjkglekbfbjaaGreatH30
import Derived.Test.YtmjjkglekbfbjaaGreatS03
import Derived.Test.YtmjjkglekbfbjaaGreatH28
import Derived.Test.YtmjjkglekbfbjaaGreatS01
import Derived.Maps.AppendAt
import Derived.Test.YtmjjkglekbfbjaaGreatS02
set_option maxRecDepth 100000
set_option maxHeartbeats 0
set_option linter.all false
section
namespace Go.Proofs
open Go Go.RowKit Go.Maps Go.Proofs.Tryz
section
variable [Lo.St]
def x7{n:Nat}:∀{l:List Nat}{p:Int},(∀x∈l,p<(x:Int)∧x<n)->l.Pairwise (· < ·)->R1 n p (Bi l)=0
 | [],_,_,_=>rfl
 |x::l,p,h,hp=>by obtain⟨h1,h2⟩:=h x (by simp);rw[List.pairwise_cons]at hp;show R1 n p ((x:Int)::Bi l)=0;unfold R1;rw[if_neg (by simp[kH];omega),if_neg (by omega)];exact x7 (λy hy=>⟨by have :=hp.1 y hy;omega,(h y (by simp[hy])).2⟩) hp.2
def P2(s k:Nat):(nk s k).Pairwise (· < ·):=List.Pairwise.filter _ List.pairwise_lt_range
def N4{s k x:Nat}:x∈nk s k↔x<k∧bit s x=1:=by unfold nk;simp
def sA(s:Nat):∀k,A0 (Bi (nk s k))=s%2^ k
 |0=>by simp[nk,A0,Bi,Nat.mod_one]
 |k+1=>by
  have ih:=sA s k;rw[Ay];have e:s%2^ (k+1)=s%2^ k+2^ k*(s/ 2^ k%2):=by rw[Nat.pow_succ,Nat.mod_mul]
  rw[e];have hb:bit s k=s/ 2^ k%2:=rfl;have :=KG s k
  by_cases h:bit s k=1
  .rw[if_pos h, <-hb,h];unfold A0 Bi at ih⊢;rw[List.map_append,List.map_append,List.sum_append,ih];simp
  .rw[if_neg h,ih, <-hb,show bit s k=0 by omega];omega
def bL{s n i:Nat}(h:i<n):bit (s%2^ n) i=bit s i:=by have h1:=Nat.testBit_mod_two_pow s n i;rw[Nat.testBit_eq_decide_div_mod_eq,Nat.testBit_eq_decide_div_mod_eq,decide_eq_true h,Bool.true_and]at h1;have :=decide_eq_decide.1 h1;unfold bit;omega
def V1{s n:Nat}(hn:n<=16):kK (s%2^ n)=nk s n:=by
 have h1:(s%2^ n)/ 2^ n=0:=Nat.div_eq_of_lt (Nat.mod_lt _ (Nat.pow_pos (by decide)));have h2:=Az (s%2^ n) n h1 (16-n);unfold kK;rw[show n+(16-n)=16 by omega]at h2;rw[h2];unfold nk;refine List.filter_congr λi hi=>?_
 rw[bL (List.mem_range.1 hi)]
def z7{s n:Nat}(hn:n<=16)(hs:s<2^ n):A0 (Bi (kK s))=s∧R1 n (-1) (Bi (kK s))=0:=by have e:=V1 (s:=s) hn;rw[Nat.mod_eq_of_lt hs]at e;rw[e,sA,Nat.mod_eq_of_lt hs];exact⟨rfl,x7 (λx hx=>⟨by omega,(N4.1 hx).1⟩) (P2 _ _)⟩
def WF{ss:List eX}{n:Nat}{x:List Int×Bool}:x∈fU ss n (iI ss n false).length (iI ss n true).length↔∃s,s<2^ n∧gP ss (n+1) s x.2=true∧x.1=Bi (kK s):=by
 have hm:∀m s,s∈iI ss n m↔s<2^ n∧gP ss (n+1) s m=true:= λm s=>by unfold iI;simp
 unfold fU;rw[List.take_length,List.take_length,List.mem_append];obtain⟨l,m⟩:=x;constructor
 .rintro(h|h)<;>obtain⟨s,hs,e⟩:=List.mem_map.1 h<;>cases e<;>obtain⟨h1,h2⟩:=(hm _ _).1 hs
  .exact⟨s,h1,h2,rfl⟩
  .exact⟨s,h1,h2,rfl⟩
 .rintro⟨s,h1,h2,h3⟩;dsimp only at h2 h3;subst h3;cases m with
  |false=>exact .inl (List.mem_map.2 ⟨s,(hm _ _).2 ⟨h1,h2⟩,rfl⟩)
  |true=>exact .inr (List.mem_map.2 ⟨s,(hm _ _).2 ⟨h1,h2⟩,rfl⟩)
end
end Go.Proofs
end
section
namespace Go.Proofs
open Go Go.RowKit Go.Maps Go.Proofs.Tryz
def K2{w:World}{B B' size n:Nat}{A:Option Addr}{f:Nat->Nat->Value}(h:Rd w B size A n f)(hB:B<=B'):Rd w B' size A n f:= λhn=>by obtain⟨b,o,e,h1,h2⟩:=h hn;exact⟨b,o,e,Nat.lt_of_lt_of_le h1 hB,h2⟩
variable [Lo.St]
def yN{w:World}{B B':Nat}{b:dO}{v:gJ}(h:fC w B b v)(hB:B<=B'):fC w B' b v:=
 ⟨K2 h.dJ hB,K2 h.dz hB,K2 h.steps hB, λi s e=>K2 (h.ins i s e) hB, λi s e=>K2 (h.outs i s e) hB,K2 h.dA hB,h.lh,h.lp,h.ls,h.lc⟩
end Go.Proofs
end
section
namespace Go.Proofs
open Go Go.RowKit Go.Maps Go.Proofs.Tryz
def E3{w w':World}{x:Nat}(h:w'.heap[x]?=w.heap[x]?)(o:Nat):w'.cell? ⟨x,o,none⟩=w.cell? ⟨x,o,none⟩:=by unfold World.cell?;simp only[h]
def z6{T:Array Value}{i:Nat}{v:Value}(h:T[i]?=some v):T.getD i undef=v:=by rw[Array.getD_eq_getD_getElem?,h];rfl
def cL{P:Program}{ops:Array Oper}{Q:Exit->Act->World->Prop}{a:Act}{w:World}{k n:Nat}(hn:(ops.toList.drop k).length=n)(h:wpList P ops Q (ops.toList.drop k) a w):wpOps P ops Q (List.range' k n) a w:=by rw[<-hn,wpOps_eq_wpList (ops.toList.drop k) k (λj=>by simp)];exact h
variable [Lo.St]
end Go.Proofs
end
section
namespace Go.Proofs.Tryz
open Go Go.RowKit Go.Maps cS Go.Proofs
def combs(below:Nat):Nat->List Int->Nat->List (List Int)
 |0,l,_=>[l]
 |m+1,l,fr=>(List.range' fr (below-fr)).flatMap λ(i:Nat)=>combs below m (l++ [(i:Int)]) (i+1)
def J0{below:Nat}{x:List Int}:∀{m:Nat}{l:List Int}{fr:Nat},x∈combs below m l fr↔∃y:List Nat,x=l++Bi y∧y.length=m∧y.Pairwise (· < ·)∧∀i∈y,fr<=i∧i<below
 |0,l,fr=>by
  simp only[combs,List.mem_singleton];constructor
  .rintro rfl;exact⟨[],by simp[Bi],rfl,.nil, λi hi=>by simp at hi⟩
  .rintro⟨y,rfl,hy,_,_⟩;have:y= []:=List.length_eq_zero_iff.1 hy;subst this;simp[Bi]
 |m+1,l,fr=>by
  simp only[combs,List.mem_flatMap,List.mem_range'_1];constructor
  .rintro⟨i,hi,h⟩;obtain⟨y,rfl,h1,h2,h3⟩:=J0.1 h;refine⟨i::y,by simp[Bi],by simp[h1],List.pairwise_cons.2 ⟨λj hj=>?_,h2⟩, λj hj=>?_⟩
   .have :=h3 j hj;omega
   .rcases List.mem_cons.1 hj with rfl|hj
    .omega
    .have :=h3 j hj;omega
  .rintro⟨y,rfl,h1,h2,h3⟩;cases y with
   |nil=>simp at h1
   |cons i y=>
    obtain⟨h4,h5⟩:=List.pairwise_cons.1 h2;have hi:=h3 i (by simp);refine⟨i,by omega,J0.2 ⟨y,by simp[Bi],by simpa using h1,h5, λj hj=>?_⟩⟩;have :=h4 j hj;have :=h3 j (by simp[hj]);omega
def ZF(l:List Int){x y:List Int}(h:lexLt x y):lexLt (l++x) (l++y):=by
 induction l with
 |nil=>exact h
 |cons a l ih=>exact .inr ⟨rfl,ih⟩
def G3{below:Nat}:∀{m:Nat}{l:List Int}{fr:Nat},(combs below m l fr).Pairwise lexLt
 |0,l,fr=>by simp[combs]
 |m+1,l,fr=>by simp only[combs];rw[List.pairwise_flatMap];refine⟨λi _=>G3,?_⟩;refine List.Pairwise.imp (R:=(· < ·)) (λ{i j}hij x hx y hy=>?_) (List.pairwise_lt_range' (s:=fr) (n:=below-fr));obtain⟨x',rfl,_⟩:=J0.1 hx;obtain⟨y',rfl,_⟩:=J0.1 hy;rw[List.append_assoc,List.append_assoc];exact ZF l (.inl (by omega))
def tries(n:Nat):List (List Int×Bool):=(List.range (n+1)).flatMap λm=>(combs n m [] 0).flatMap λl=>[(l,false),(l,true)]
def cG{n:Nat}{x:List Int×Bool}:x∈tries n↔∃y:List Nat,x.1=Bi y∧y.Pairwise (· < ·)∧(∀i∈y,i<n):=by
 obtain⟨x,m⟩:=x;simp only[tries,List.mem_flatMap,List.mem_range];constructor
 .rintro⟨k,hk,l,hl,h⟩;obtain⟨y,rfl,h1,h2,h3⟩:=J0.1 hl;refine⟨y,?_,h2, λi hi=>(h3 i hi).2⟩;simp only[List.nil_append,List.mem_cons,Prod.mk.injEq,List.not_mem_nil,or_false]at h;rcases h with⟨rfl,_⟩|⟨rfl,_⟩<;>rfl
 .rintro⟨y,rfl,h2,h3⟩;refine⟨y.length,?_,Bi y,J0.2 ⟨y,rfl,rfl,h2, λi hi=>⟨Nat.zero_le _,h3 i hi⟩⟩,?_⟩
  .have:y.length<=n:=by
    have h4:y.Nodup:=h2.imp λh=>Nat.ne_of_lt h
    have :=List.Nodup.length_le_of_subset h4 (l₂:=List.range n) (λi hi=>List.mem_range.2 (h3 i hi));simpa using this
   omega
  .cases m<;>simp
def M2{below m fr:Nat}{l x:List Int}(h:x∈combs below m l fr):x.length=l.length+m:=by obtain⟨y,rfl,h1,_⟩:=J0.1 h;simp[Bi,h1]
def A6(n:Nat):(tries n).Pairwise Lt:=by
 unfold tries;rw[List.pairwise_flatMap];refine⟨λm _=>?_,List.Pairwise.imp (R:=(· < ·)) (λ{i j}hij x hx y hy=>?_) List.pairwise_lt_range⟩
 .rw[List.pairwise_flatMap];refine⟨λl _=>?_,?_⟩
  .simp only[List.pairwise_cons,List.mem_singleton,List.not_mem_nil,List.Pairwise.nil,and_true,false_implies,implies_true];rintro x rfl;exact .inr ⟨rfl,.inr ⟨rfl,rfl,rfl⟩⟩
  .refine List.Pairwise.imp_of_mem (R:=lexLt) (λ{a b}ha hb hab x hx y hy=>?_) G3;have la:=M2 ha;have lb:=M2 hb;simp only[List.mem_cons,List.not_mem_nil,or_false]at hx hy;rcases hx with rfl|rfl<;>rcases hy with rfl|rfl<;>exact .inr ⟨by show a.length=b.length;omega,.inl hab⟩
 .obtain⟨a,ha,hx⟩:=List.mem_flatMap.1 hx;obtain⟨b,hb,hy⟩:=List.mem_flatMap.1 hy;have la:=M2 ha;have lb:=M2 hb;simp only[List.mem_cons,List.not_mem_nil,or_false]at hx hy;rcases hx with rfl|rfl<;>rcases hy with rfl|rfl<;>exact .inl (by show a.length<b.length;simp at la lb;omega)
def B7{α:Type}{R:α->α->Prop}{p:α->Bool}{x:α}:∀{l:List α},l.Pairwise R->l.find? p=some x->p x=true∧x∈l∧∀y∈l,p y=true->y=x∨R x y
 | [],_,h=>by simp at h
 |a::l,hp,h=>by
  obtain⟨h1,h2⟩:=List.pairwise_cons.1 hp;rw[List.find?_cons]at h;cases ha:p a with
  |true=>
   rw[ha]at h;injection h with h;subst h;refine⟨ha,by simp, λy hy _=>?_⟩;rcases List.mem_cons.1 hy with rfl|hy
   .exact .inl rfl
   .exact .inr (h1 y hy)
  |false=>
   rw[ha]at h;obtain⟨q1,q2,q3⟩:=B7 h2 h;refine⟨q1,by simp[q2], λy hy py=>?_⟩;rcases List.mem_cons.1 hy with rfl|hy
   .rw[ha]at py;cases py
   .exact q3 y hy py
end Go.Proofs.Tryz
end
section
namespace Go.Proofs.Tryz
open Go Go.RowKit Go.Maps cS Go.Proofs
variable [Lo.St]
def tA{s n i:Nat}(hs:s<2^ n)(hi:i<=n):bit (s+2^ n) i=if i=n then 1 else bit s i:=by
 have hp:(2:Nat)^ n=2^ i*2^ (n-i):=by rw[<-Nat.pow_add];congr 1;omega
 unfold bit
 by_cases h:i=n
 .subst h;rw[if_pos rfl,Nat.add_div_right _ (Nat.two_pow_pos i),Nat.div_eq_of_lt hs]
 .rw[if_neg h,hp,Nat.add_mul_div_left _ _ (Nat.two_pow_pos i)];obtain⟨d,hd⟩:∃d,n-i=d+1:=⟨n-i-1,by omega⟩;rw[hd,Nat.pow_succ];omega
def tG(y:List Nat)(k:Nat):A0 (Bi (y++ [k]))=A0 (Bi y)+2^ k:=by simp[A0,Bi]
def N2:∀{n:Nat}{y:List Nat},y.Pairwise (· < ·)->(∀i∈y,i<n)->A0 (Bi y)<2^ n∧nk (A0 (Bi y)) n=y
 |0,y,_,h=>by
  cases y with
  |nil=>simp[A0,Bi,nk]
  |cons i y=>have :=h i (by simp);omega
 |n+1,y,hp,h=>by
  rcases List.eq_nil_or_concat y with rfl|⟨z,k,rfl⟩
  .have:∀m,nk 0 m= []:= λm=>by
    unfold nk;rw[List.filter_eq_nil_iff];intro i _;simp[bit]
   simp[A0,Bi,this];exact Nat.two_pow_pos _
  .rw[List.concat_eq_append]at *;obtain⟨p1,_,p3⟩:=List.pairwise_append.1 hp;have hk:=h k (by simp);have hz:∀i∈z,i<k:= λi hi=>p3 i hi k (by simp)
   by_cases e:k=n
   .subst e;obtain⟨q1,q2⟩:=N2 p1 hz;rw[tG];refine⟨by rw[Nat.pow_succ];omega,?_⟩;rw[Ay,if_pos (by rw[tA q1 (Nat.le_refl _),if_pos rfl])];congr 1;refine Eq.trans ?_ q2
    unfold nk;refine List.filter_congr λi hi=>?_
    have :=List.mem_range.1 hi;rw[tA q1 (by omega),if_neg (by omega)]
   .obtain⟨q1,q2⟩:=N2 (n:=n) hp (λi hi=>by
     rcases List.mem_append.1 hi with hi|hi
     .have :=hz i hi;omega
     .simp at hi;omega)
    refine⟨by rw[Nat.pow_succ];omega,?_⟩;rw[Ay,if_neg,q2];unfold bit;rw[Nat.div_eq_of_lt q1];simp
def wG{n:Nat}{y:List Nat}(hn:n<=16)(hp:y.Pairwise (· < ·))(h:∀i∈y,i<n):A0 (Bi y)<2^ n∧kK (A0 (Bi y))=y:=by obtain⟨h1,h2⟩:=N2 hp h;refine⟨h1,?_⟩;rw[<-Nat.mod_eq_of_lt h1,V1 hn];exact h2
def eL(ss:List eX)(n:Nat):Option (List Int×Bool):=(tries n).find? λx=>gP ss (n+1) (A0 x.1) x.2
def G2(ss:List eX)(n:Nat):List Int×Bool×Bool:=match eL ss n with
 |none=>([],false,false)
 |some x=>(x.1,x.2,true)
def L3{ss:List eX}{n:Nat}(hn:n<=16){x:List Int×Bool}:x∈fU ss n (iI ss n false).length (iI ss n true).length↔x∈tries n∧gP ss (n+1) (A0 x.1) x.2=true:=by
 rw[WF,cG];constructor
 .rintro⟨s,hs,hp,hx⟩;have hb:=(z7 hn hs).1;refine⟨⟨kK s,hx,?_, λi hi=>?_⟩,by rw[hx,hb];exact hp⟩
  .rw[<-Nat.mod_eq_of_lt hs,V1 hn];exact P2 _ _
  .rw[<-Nat.mod_eq_of_lt hs,V1 hn]at hi;exact(N4.1 hi).1
 .rintro⟨⟨y,hx,h1,h2⟩,hp⟩;obtain⟨q1,q2⟩:=wG hn h1 h2;exact⟨A0 (Bi y),q1,by rw[<-hx];exact hp,by rw[q2];exact hx⟩
def mL{ss:List eX}{n:Nat}(hn:n<=16):lq (fU ss n (iI ss n false).length (iI ss n true).length) (G2 ss n).1 (G2 ss n).2.1 (G2 ss n).2.2:=by
 unfold G2;cases h:eL ss n with
 |none=>
  refine .inl ⟨rfl,?_,rfl,rfl⟩;rw[List.eq_nil_iff_forall_not_mem];intro x hx;obtain⟨h1,h2⟩:=(L3 hn).1 hx;have :=List.find?_eq_none.1 h x h1;exact this h2
 |some x=>
  obtain⟨h1,h2,h3⟩:=B7 (A6 n) h;refine .inr ⟨rfl,(L3 hn).2 ⟨h2,h1⟩, λy hy hlt=>?_⟩;obtain⟨q1,q2⟩:=(L3 hn).1 hy;rcases h3 y q1 q2 with rfl|h
  .exact Lt.irrefl _ hlt
  .exact Lt.irrefl _ (h.trans hlt)
def P3:∀{l m:List Int},l.length=m.length->lexLt l m∨l=m∨lexLt m l
 | [],[],_=>.inr (.inl rfl)
 | [],_::_,h=>by simp at h
 |_::_,[],h=>by simp at h
 |a::x,b::y,h=>by
  rcases Int.lt_trichotomy a b with e|e|e
  .exact .inl (.inl e)
  .subst e;rcases P3 (l:=x) (m:=y) (by simpa using h)with q|q|q
   .exact .inl (.inr ⟨rfl,q⟩)
   .exact .inr (.inl (by rw[q]))
   .exact .inr (.inr (.inr ⟨rfl,q⟩))
  .exact .inr (.inr (.inl e))
def Lt.total(x y:List Int×Bool):Lt x y∨x=y∨Lt y x:=by
 obtain⟨l,a⟩:=x;obtain⟨m,b⟩:=y;unfold Lt;rcases Nat.lt_trichotomy l.length m.length with h|h|h
 .exact .inl (.inl h)
 .rcases P3 h with q|q|q
  .exact .inl (.inr ⟨h,.inl q⟩)
  .subst q;cases a<;>cases b<;>simp
  .exact .inr (.inr (.inr ⟨h.symm,.inl q⟩))
 .exact .inr (.inr (.inl h))
def lq.one{items:List (List Int×Bool)}{s1 s2:List Int}{m1 m2 f1 f2:Bool}(h:lq items s1 m1 f1)(k:lq items s2 m2 f2):s1=s2∧m1=m2∧f1=f2:=by
 rcases h with⟨rfl,h1,rfl,rfl⟩|⟨rfl,h1,h2⟩<;>rcases k with⟨rfl,k1,rfl,rfl⟩|⟨rfl,k1,k2⟩
 .exact⟨rfl,rfl,rfl⟩
 .rw[h1]at k1;cases k1
 .rw[k1]at h1;cases h1
 .rcases Lt.total (s1,m1) (s2,m2)with q|q|q
  .exact absurd q (k2 _ h1)
  .injection q with q1 q2;exact⟨q1,q2,rfl⟩
  .exact absurd q (h2 _ k1)
end Go.Proofs.Tryz
end
section
namespace Go.Proofs
open Go Go.RowKit Go.Maps Go.Proofs.Tryz
section
variable {P:Program} {w:World}
def L0{ops:Array Oper}{rest:List Oper}{o:Oper}{a:Act}{Q:Exit->Act->World->Prop}(hgd:o.guard=none)(s x:Operand)(t:TypeId)
 (ho:o.op=.call { callee:=.builtin .append,args:= #[s,x],argTypes:= #[t,t] })
 (base:Nat) (e:TypeId) (i:TypeInfo) (z:Value) (size bytes:Nat) (ht:P.underlying t=some (.slice e)) (hi:P.info? e=some i) (hz:i.zero=some z)
 (hsize:i.size=size) (hby:i.bytes=bytes) (hzs:z.cells.size=size) (hsz:0<size)
 (v:Value) (n:Nat) (xs:List Value) (hs:a.eval s=v) (hown:w.ownsRow base e size v n xs)
 (A:Option Addr) (m c:Nat) (news:List Value) (hx:a.eval x=.slice A m c) (hl:news.length=m*size) (hnews:∀ad,A=some ad->∀j u,news[j]?=some u->w.cell? (ad.add j)=some u) (h0:A=none->m=0) (h1:∀u∈news,u.oneCell'=true)
 (h63:n+m<=maxLen) (hbytes:(n+m)*bytes<=140737488355328) (hbase:base<=w.heap.size)
 (h:∀v' w',w'.ownsRow base e size v' (n+m) (xs++news)->w.grownBy w' v.ownBlock->(v'.ownBlock=v.ownBlock∨v'.ownBlock=some w.heap.size)->wpList P ops Q rest (a.put o.dst v') w'):wpList P ops Q (o::rest) a w:=by
 refine wpList_plain hgd λK hK=>?_
 have key:∃v' w',(Builtin.append_ #[t,t] o.type #[v,.slice A m c]).run P w=.ok v' w'∧w'.ownsRow base e size v' (n+m) (xs++news)∧w.grownBy w' v.ownBlock∧(v'.ownBlock=v.ownBlock∨v'.ownBlock=some w.heap.size):=by
  cases A with
  |some ad=>
   obtain⟨v',w',hr,h2,h3,_,h5⟩:=run_append_own_at (P:=P) w base t o.type e i z size bytes ht hi hz hsize hby hzs hsz v n xs hown ad m c news hl (hnews ad rfl) h1 h63 hbytes hbase;exact⟨v',w',hr,h2,h3,h5⟩
  |none=>
   obtain rfl:=h0 rfl;obtain rfl:news= []:=List.eq_nil_of_length_eq_zero (by simpa using hl);refine⟨v,w,?_,by rw[List.append_nil];exact hown,pX _ _,.inl rfl⟩;rcases hown.2 with⟨rfl,rfl⟩|⟨g,cap,cur,rfl,_,_,hnc,_⟩
   .simp[Builtin.append_,run_underlying ht,sizeOf,typeInfo,hi,Builtin.lenOf,Builtin.firstCells]
   .simp[Builtin.append_,run_underlying ht,sizeOf,typeInfo,hi,Builtin.lenOf,Builtin.firstCells,hnc,storeCells]
 obtain⟨v',w',hr,h2,h3,h5⟩:=key;unfold Oper.wp execOp;simp only[ho,resolve,invoke,builtin,Sem.run_bind,Sem.run_pure,Result.andThen_ok,List.map_toArray,List.map_cons,List.map_nil,hs,hx,hr];exact hK _ _ (h v' w' h2 h3 h5)
end
structure Rows(w:World)(Q:Nat->Prop)(cs:List Value)(ls:List (List Int)):Prop where
 len:cs.length=ls.length
 row:∀i(h:i<ls.length),∃A c,cs[i]?=some (.slice A ls[i].length c)∧xJ w w.heap.size A ls[i]∧(A=none->ls[i]= [])∧∀a,A=some a->Q a.block∧a.block<w.heap.size
def xJ.cut{w w':World}{B B':Nat}{A:Option Addr}{l:List Int}(h:xJ w B A l)(hk:∀a,A=some a->a.block<B->a.block<B'∧w'.heap[a.block]?=w.heap[a.block]?):xJ w' B' A l:= λhn=>by obtain⟨b,off,e,hb,hc⟩:=h hn;obtain⟨k1,k2⟩:=hk _ e hb;exact⟨b,off,e,k1, λi j hi hj=>(show w'.cell? ⟨b,off+(i*1+j),none⟩=w.cell? ⟨b,off+(i*1+j),none⟩from World.cell?_of_block k2).trans (hc i j hi hj)⟩
def Rows.nil(w:World)(Q:Nat->Prop):Rows w Q [] []:=⟨rfl, λi h=>by simp at h⟩
def Rows.one{w:World}{Q:Nat->Prop}{A:Option Addr}{l:List Int}{c:Nat}(h:xJ w w.heap.size A l)(h0:A=none->l= [])(hq:∀a,A=some a->Q a.block∧a.block<w.heap.size):Rows w Q [.slice A l.length c] [l]:=⟨rfl, λi hi=>by
 obtain rfl:i=0:=by simp at hi;omega
 exact⟨A,c,rfl,h,h0,hq⟩⟩
def Rows.app{w:World}{Q:Nat->Prop}{c1 c2:List Value}{l1 l2:List (List Int)}(h1:Rows w Q c1 l1)(h2:Rows w Q c2 l2):Rows w Q (c1++c2) (l1++l2):=by
 refine⟨by rw[List.length_append,List.length_append,h1.len,h2.len], λi hi=>?_⟩
 by_cases hl:i<l1.length
 .rw[List.getElem?_append_left (by rw[h1.len];exact hl),List.getElem_append_left hl];exact h1.row i hl
 .have hr:i-l1.length<l2.length:=by rw[List.length_append]at hi;omega
  rw[List.getElem?_append_right (by rw[h1.len];omega),List.getElem_append_right (by omega),h1.len];exact h2.row _ hr
def Rows.keep{w w':World}{Q Q':Nat->Prop}{cs:List Value}{ls:List (List Int)}(h:Rows w Q cs ls)(hk:∀b,b<w.heap.size->Q b->Q' b∧b<w'.heap.size∧w'.heap[b]?=w.heap[b]?):Rows w' Q' cs ls:=by refine⟨h.len, λi hi=>?_⟩;obtain⟨A,c,e,hr,h0,hq⟩:=h.row i hi;refine⟨A,c,e,hr.cut λa ha hb=>(hk _ hb (hq a ha).1).2,h0, λa ha=>?_⟩;have :=hk _ (hq a ha).2 (hq a ha).1;exact⟨this.1,this.2.1⟩
def Rows.mono{w:World}{Q Q':Nat->Prop}{cs:List Value}{ls:List (List Int)}(h:Rows w Q cs ls)(hk:∀b,b<w.heap.size->Q b->Q' b):Rows w Q' cs ls:=h.keep λb hb hq=>⟨hk b hb hq,hb,rfl⟩
def Rows.plain{w:World}{Q:Nat->Prop}{cs:List Value}{ls:List (List Int)}(h:Rows w Q cs ls){u:Value}(hu:u∈cs):u.oneCell'=true:=by obtain⟨i,hi,e⟩:=List.mem_iff_getElem.1 hu;obtain⟨A,c,e2,_⟩:=h.row i (by rw[<-h.len];exact hi);rw[List.getElem?_eq_getElem hi,e]at e2;injection e2 with e2;subst e2;rfl
def I2{below:Nat}:∀{m:Nat}{l:List Int}{fr:Nat},(combs below m l fr).length<=2^ (below-fr)
 |0,l,fr=>by have :=Nat.two_pow_pos (below-fr);simp[combs];omega
 |m+1,l,fr=>by
  have key:∀d f,f+d=below->((List.range' f d).flatMap λ(i:Nat)=>combs below m (l++ [(i:Int)]) (i+1)).length<=2^ d:=by
   intro d
   induction d with
   |zero=>intro f _;simp
   |succ d ih=>
    intro f hf;rw[List.range'_succ,List.flatMap_cons,List.length_append];have h1:=I2 (below:=below) (m:=m) (l:=l++ [(f:Int)]) (fr:=f+1);have h2:=ih (f+1) (by omega);rw[show below-(f+1)=d by omega]at h1;rw[Nat.pow_succ];omega
  by_cases h:fr<=below
  .exact key (below-fr) fr (by omega)
  .simp only[combs];rw[show below-fr=0 by omega];simp
def V0(below m:Nat)(l:List Int)(fr k:Nat):List (List Int):=(List.range' fr k).flatMap λ(i:Nat)=>combs below m (l++ [(i:Int)]) (i+1)
def I3(below m:Nat)(l:List Int)(fr k:Nat):V0 below m l fr (k+1)=V0 below m l fr k++combs below m (l++ [((fr+k:Nat):Int)]) (fr+k+1):=by unfold V0;rw[<-List.range'_append_1,List.flatMap_append];simp
def n9{below m:Nat}{l:List Int}{fr k:Nat}(hk:k<=below-fr):(V0 below m l fr k).length<=2^ (below-fr):=by
 have h:=I2 (below:=below) (m:=m+1) (l:=l) (fr:=fr)
 have e:combs below (m+1) l fr=V0 below m l fr k++(List.range' (fr+k) (below-fr-k)).flatMap λ(i:Nat)=>combs below m (l++ [(i:Int)]) (i+1):=by show(List.range' fr (below-fr)).flatMap _=_;unfold V0;rw[<-List.flatMap_append];congr 1;rw[List.range'_append_1];congr 1;omega
 rw[e,List.length_append]at h;omega
end Go.Proofs
end
section
namespace Go.Proofs
open Go Go.RowKit Go.Maps Go.Proofs.Tryz
variable [Lo.St]
def Lo.QP:Lo.prog.underlying 89=some (.slice 27):=(Lo.underlying 89).trans (by kernel_rfl)
def Lo.SP:(Lo.prog.info? 27).map (λi=>(i.zero,i.size,i.bytes))=some (some (.slice none 0 0),1,24):=by rw[Lo.info];kernel_rfl
def pL(w:World)(A:Option Addr)(ls:List (List Int))(e:Ending)(w':World):Prop:=
 ∃A' c' cells,e=.returned (.slice A' ls.length c')∧Rd w' w'.heap.size 1 A' ls.length (λi _=>cells.getD i undef)∧Rows w' (λb=>w.heap.size<=b∨∃a,A=some a∧a.block=b) cells ls∧Below w.heap.size w w'
def rL{l:List Int}{u:Value}(h:u∈l.map λx=>Value.int .i64 x):u.oneCell'=true:=by obtain⟨x,_,rfl⟩:=List.mem_map.1 h;rfl
def bM(b off j:Nat):(⟨b,off,none⟩:Addr).add j=⟨b,off+j,none⟩:=by
 unfold Addr.add;split
 .rename_i h;rw[h];rfl
 .rfl
def cM{w:World}{B:Nat}{A:Option Addr}{l:List Int}(h:xJ w B A l):∀ad,A=some ad->∀j u,(l.map λx=>Value.int .i64 x)[j]?=some u->w.cell? (ad.add j)=some u:=by intro ad e j u hu;rw[List.getElem?_map]at hu;obtain⟨x,hx,rfl⟩:=Option.map_eq_some_iff.1 hu;have hj:=(List.getElem?_eq_some_iff.1 hx).1;obtain⟨b,off,e2,_,hc⟩:=h (by omega);rw[e]at e2;cases e2;rw[<-(List.getElem?_eq_some_iff.1 hx).2];rw[bM];exact PT hc hj
def CN{w:World}{B n:Nat}{A:Option Addr}{cs:List Value}(h:Rd w B 1 A n λi _=>cs.getD i undef)(hn:cs.length=n):∀ad,A=some ad->∀j u,cs[j]?=some u->w.cell? (ad.add j)=some u:=by intro ad e j u hu;have hj:=(List.getElem?_eq_some_iff.1 hu).1;obtain⟨b,off,e2,_,hc⟩:=h (by omega);rw[e]at e2;cases e2;have :=hc j 0 (by omega) (by omega);rw[Nat.mul_one,Nat.add_zero]at this;rw[bM];rw[this];show some (cs.getD j undef)=_;rw[List.getD_eq_getElem?_getD,hu];rfl
def Lo.AG{n:Nat}(hn:n<=16)(m:Nat):∀(w:World)(A:Option Addr)(l:List Int)(cl fr:Nat),xJ w w.heap.size A l->(A=none->l= [])->(∀a,A=some a->a.block<w.heap.size)->l.length+m<=40->fr<=n->
 Calls Lo.prog 34 #[.slice A l.length cl,.int .i64 (m:Int),.int .i64 (fr:Int),.int .i64 (n:Int)] w (pL w A (combs n m l fr)):=by
 obtain⟨U,U2,U3,U4,U5,U6⟩:=Lo.facts;have C:=Lo.call Tryz.func34;obtain⟨i3,hi3,z30,z31,z32⟩:=info_parts Lo.info3;obtain⟨i4,hi4,z40,z41,z42⟩:=info_parts Lo.SP
 induction m with
 |zero=>
  intro w A l cl fr hr h0 ha hl hf;have HR:=Lib.hid (And.intro hr (And.intro h0 ha));clear hr h0 ha;show Calls Lo.prog 34 #[_,.int .i64 0,_,_] w _;go_enter Lo.get Tryz.func34,Tryz.ntmps34;go_wp2;go_ret;obtain⟨X,hX⟩:∃X,w.alloc (.cells #[.slice A l.length cl] 27)=X:=⟨_,rfl⟩;have sX:X.heap.size=w.heap.size+1:=hX ▸ World.size_alloc _ _;have bX:Below w.heap.size w X:=hX ▸ (Below.refl _ _).alloc (Nat.le_refl _) _;have cX:X.heap[w.heap.size]?=some (.cells #[.slice A l.length cl] 27):=hX ▸ World.alloc_heap_new _ _
  show pL w A [l] _ (w.alloc _);rw[hX];refine⟨some ⟨w.heap.size,0,none⟩,1,[.slice A l.length cl],rfl, λ_=>⟨w.heap.size,0,rfl,by omega, λi j hi hj=>?_⟩,Rows.one (HR.out.1.cut λa e hb=>⟨by omega,bX.block _ hb⟩) HR.out.2.1 λa e=>⟨.inr ⟨a,e,rfl⟩,by have :=HR.out.2.2 a e;omega⟩,bX⟩;obtain rfl:i=0:=by simp at hi;omega
  obtain rfl:j=0:=by omega
  unfold World.cell?;simp only[cX];rfl
 |succ m ih=>
  intro w A l cl fr hr h0 ha hl hf;have HR:=Lib.hid (And.intro hr (And.intro h0 ha));have IH:=Lib.hid ih;clear hr h0 ha ih;obtain⟨M,hM⟩:∃M:Int,((m+1:Nat):Int)=M:=⟨_,rfl⟩;rw[hM];have z1:(M==0)=false:=by simp;omega
  have β6:IntKind.i64.wrap (M-1)=(m:Int):=by rw[IntKind.wrap_i64];omega
  clear hM;have hcnt:∀k,k<=n-fr->(V0 n m l fr k).length<=2^ 16:= λk hk=>Nat.le_trans (n9 hk) (Nat.pow_le_pow_right (by decide) (by omega))
  have Mz:=Lib.hid hcnt;clear hcnt;go_enter Lo.get Tryz.func34,Tryz.ntmps34;go_wp2
  go_loopw [9,10] (λv i wr=>∃(k:Nat)(cells:List Value),k<=n-fr∧i=.int .i64 ((fr+k:Nat):Int)∧wr.ownsRow w.heap.size 27 1 v cells.length cells∧Rows wr (λb=>w.heap.size<=b∧v.ownBlock≠some b) cells (V0 n m l fr k)∧Below w.heap.size w wr) (λ_ i _=>n-(intOf i).toNat)
  case atStart=>exact⟨0,[],Nat.zero_le _,rfl,World.ownsRow_nil w w.heap.size 27 1,Rows.nil _ _,Below.refl _ _⟩
  case round=>
   obtain⟨k,cells,hk,rfl,hown,hrows,hbw⟩:=hrel;have szr:=hbw.size;obtain⟨f,mi⟩:∃f,fr+k=f:=⟨_,rfl⟩;rw[mi]
   by_cases hlt:f<n
   .have hlt':(f:Int)<(n:Int):=by omega
    have wf:IntKind.i64.wrap ((f:Int)+1)=(f:Int)+1:=by rw[IntKind.wrap_i64];omega
    have hrr:xJ wr wr.heap.size A l:=HR.out.1.cut λa e hb=>⟨by omega,hbw.block _ hb⟩
    have hlen:=hrows.len;have hc1:=Mz.out k hk;have hc2:=Mz.out (k+1) (by omega);rw[I3,mi]at hc2;rw[List.length_append]at hc2;have HK:=Lib.hid (And.intro hown (And.intro hrows (And.intro hbw hrr)));have HL:=Lib.hid hc2;clear hown hrows hbw hrr hc2
    have dR:(wr.alloc (.cells #[] 3)).ownsRow wr.heap.size 3 1 (.slice (some ⟨wr.heap.size,0,none⟩) 0 0) 0 []:=by
     refine⟨rfl,.inr ⟨wr.heap.size,0,#[],rfl,Nat.le_refl _,?_,Nat.le_refl _,?_,?_,?_⟩⟩
     .show(wr.heap.push (.cells #[] 3))[wr.heap.size]?=_
      simp
     all_goals simp
    have b0:Below wr.heap.size wr (wr.alloc (.cells #[] 3)):=(Below.refl _ _).alloc (Nat.le_refl _) _;have HO:=Lib.hid (And.intro dR b0);clear dR b0
    go_wp2_with(first
     |(at_builtin;
        (refine L0 rfl (.tmp 22) (.tmp 23) 27 rfl wr.heap.size 3 i3 (.int .i64 0) 1 8 Lo.I1 hi3 z30 z31 z32 rfl (by decide) _ 0 [] rfl HO.out.1 A l.length cl (l.map λx=>.int .i64 x) rfl (by simp) (cM (HK.out.2.2.2.cut λa e hb=>⟨hb,HO.out.2.block _ hb⟩)) (λe=>by rw[HR.out.2.1 e];rfl) (λu hu=>rL hu) (by unfold maxLen;omega) (by omega) HO.out.2.size ?_
         intro v1 w1 a1 a2 _;have b1:=HO.out.2.grown a2 HO.out.2.size (λj hj=>by have h:some wr.heap.size=some j:=hj;cases h;exact Nat.le_refl _);have H1:=Lib.hid (And.intro a1 b1);clear a1 a2 b1))
     |(at_builtin;
        (refine L0 rfl (.tmp 24) (.tmp 26) 27 rfl wr.heap.size 3 i3 (.int .i64 0) 1 8 Lo.I1 hi3 z30 z31 z32 rfl (by decide) _ (0+l.length) ([]++l.map λx=>.int .i64 x) rfl (H1.out.1.alloc _) (some ⟨_,0,none⟩) 1 1 [.int .i64 (f:Int)] rfl rfl ?hn (λe=>by cases e) (λu hu=>by obtain rfl:=List.mem_singleton.1 hu;rfl) (by unfold maxLen;omega) (by omega) (Nat.le_trans H1.out.2.size (by rw[World.size_alloc];omega)) ?_
         case hn=>
          intro ad e;cases e;exact World.news_of_block (t:=3) (fr:=(0,0)) (cs:= #[.int .i64 (f:Int)]) (World.alloc_heap_new _ _)
         intro v2 w2 a1 a2 a3;have b2:=((H1.out.2.alloc H1.out.2.size _)).grown a2 (Nat.le_trans H1.out.2.size (by rw[World.size_alloc];omega)) (λj hj=>(H1.out.1.lt j hj).1)
         have hfx:∀i j,i<0+l.length+1->j<1->([]++(l.map λx=>Value.int .i64 x)++ [.int .i64 (f:Int)])[i*1+j]?=some (.int .i64 (((l++ [(f:Int)])[i]?).getD 0)):= λi j hi hj=>by
          obtain rfl:j=0:=by omega
          rw[List.nil_append,show(l.map λx=>Value.int .i64 x)++ [.int .i64 (f:Int)]=(l++ [(f:Int)]).map λx=>Value.int .i64 x by simp,List.getElem?_map,Nat.mul_one,Nat.add_zero,List.getElem?_eq_getElem (by simp;omega)];rfl
         obtain⟨A2,c2,rfl,_,hrd⟩:=ownsRow.rd (B:=w2.heap.size) (f:= λi _=>.int .i64 (((l++ [(f:Int)])[i]?).getD 0)) a1 hfx;have hl2:(l++ [(f:Int)]).length=0+l.length+1:=by simp
         have WP:xJ w2 w2.heap.size A2 (l++ [(f:Int)]):=by have :=hrd _ (Nat.le_refl _) (Nat.le_refl _);unfold xJ;rw[hl2];exact this
         obtain⟨g2,o2,e2,hg2,_⟩:=WP (by omega);subst e2;have hge:=(a1.lt g2 rfl).1;have hc:=IH.out w2 _ (l++ [(f:Int)]) c2 (f+1) WP (λe=>by cases e) (λa e=>by cases e;exact hg2) (by rw[hl2];omega) (by omega);rw[show(l++ [(f:Int)]).length=l.length+1 by simp,show((f+1:Nat):Int)=(f:Int)+1 by omega]at hc;have H2:=Lib.hid (And.intro hc (And.intro b2 hge));clear a1 a2 a3 b2 hrd WP hc hl2 hge hg2))
     |(go_at_call 34;
        (with_reducible refine H2.out.1.mono ?_
         rintro e w3⟨A3,c3,cells3,rfl,bQ,B9,hb3⟩;have hb4:=H2.out.2.1.trans (hb3.mono H2.out.2.1.size);have hl3:=B9.len;have hown3:=ownsRow.below HK.out.1 hb4
         have h03:A3=none->(combs n m (l++ [(f:Int)]) (f+1)).length=0:= λe=>by
          rcases Nat.eq_zero_or_pos (combs n m (l++ [(f:Int)]) (f+1)).length with h|h
          .exact h
          .obtain⟨_,_,e2,_⟩:=bQ h;rw[e2]at e;cases e
         have H3:=Lib.hid (And.intro bQ (And.intro B9 (And.intro hb4 (And.intro hl3 (And.intro hown3 h03)))));clear bQ B9 hb4 hb3 hown3 h03))
     |(at_builtin;
        (refine L0 rfl (.tmp 21) (.tmp 33) 89 rfl w.heap.size 27 i4 (.slice none 0 0) 1 24 Lo.QP hi4 z40 z41 z42 rfl (by decide) _ cells.length cells rfl H3.out.2.2.2.2.1 A3 (combs n m (l++ [(f:Int)]) (f+1)).length c3 cells3 rfl (by rw[Nat.mul_one];exact hl3) (CN H3.out.1 hl3) H3.out.2.2.2.2.2 (λu hu=>H3.out.2.1.plain hu) (by have :=HL.out;unfold maxLen;omega) (by have :=HL.out;omega) (Nat.le_trans szr H3.out.2.2.1.size) ?_
         intro v4 w4 a1 a2 a3;have H4:=Lib.hid (And.intro a1 (And.intro a2 a3));clear a1 a2 a3)))
    go_roundw
    case rel=>
     have b3:=H3.out.2.2.1;have s3:=b3.size;have s2:=H2.out.2.1.size;have gb:=H4.out.2.1;refine⟨k+1,cells++cells3,by omega,by rw[<-Nat.add_assoc,mi];go_num,by rw[List.length_append,hl3];exact H4.out.1,?_,(HK.out.2.2.1.trans (b3.mono szr)).grown gb (by omega) (λj hj=>(HK.out.1.lt j hj).1)⟩;rw[I3,mi];refine Rows.app (HK.out.2.1.keep λb hb hq=>⟨⟨hq.1, λe=>?_⟩,by have :=gb.size;omega,?_⟩) (H3.out.2.1.keep λb hb hq=>?_)
     .rcases H4.out.2.2 with h|h
      .exact hq.2 (h.symm.trans e)
      .rw[h]at e;cases e;omega
     .exact(gb.block b (by omega) (λe=>hq.2 e.symm)).trans (b3.block b hb)
     .have hge:wr.heap.size<=b:=by
       rcases hq with h|⟨a,e,h⟩
       .omega
       .cases e;have :=H2.out.2.2;have h:g2=b:=h;omega
      have hne:u9.ownBlock≠some b:= λe=>by have :=(HK.out.1.lt b e).2;omega
      refine⟨⟨by omega, λe=>?_⟩,by have :=gb.size;omega,gb.block b hb (λe=>hne e.symm)⟩;rcases H4.out.2.2 with h|h
      .exact hne (h.symm.trans e)
      .rw[h]at e;cases e;omega
    case measure=>simp[intOf];omega
   .obtain rfl:k=n-fr:=by omega
    obtain⟨A5,c5,e5,hcap5,fR⟩:=ownsRow.rd (B:=wr.heap.size) (f:= λi _=>cells.getD i undef) hown (λi j hi hj=>by
     obtain rfl:j=0:=by omega
     rw[Nat.mul_one,Nat.add_zero,List.getElem?_eq_getElem hi,List.getD_eq_getElem?_getD,List.getElem?_eq_getElem hi];rfl)
    have HE:=Lib.hid (And.intro (fR _ (Nat.le_refl _) (Nat.le_refl _)) (And.intro hrows hbw));subst e5;clear fR hrows hbw hown;have hlt':¬(f:Int)<(n:Int):=by omega
    go_wp2;go_ret;have hl:=HE.out.2.1.len;have ec:combs n (m+1) l fr=V0 n m l fr (n-fr):=rfl;rw[ec];exact⟨A5,c5,cells,by rw[<-hl];rfl,by rw[<-hl];exact HE.out.1,HE.out.2.1.mono λb hb hq=>.inl hq.1,HE.out.2.2⟩
end Go.Proofs
end
section
namespace Go.Proofs.Tryz
open Go Go.RowKit Go.Maps cS Go.Proofs
def two(l:List Int):List (List Int×Bool):=[(l,false),(l,true)]
def B1(n m:Nat):List (List Int×Bool):=(List.range m).flatMap λk=>(combs n k [] 0).flatMap two
def sofar(n m i:Nat):List (List Int×Bool):=B1 n m++((combs n m [] 0).take i).flatMap two
def DG(n m:Nat):sofar n m 0=B1 n m:=by simp[sofar]
def E7(n m:Nat):sofar n m (combs n m [] 0).length=B1 n (m+1):=by unfold sofar B1;rw[List.take_length,List.range_succ,List.flatMap_append];simp
def N5{n m i:Nat}(h:i<(combs n m [] 0).length):sofar n m (i+1)=sofar n m i++two (combs n m [] 0)[i]:=by unfold sofar;rw[List.take_succ_eq_append_getElem h,List.flatMap_append,List.append_assoc];simp
def S7(n:Nat):tries n=B1 n (n+1):=rfl
def T7{n m i:Nat}(hm:m<=n)(hi:i<(combs n m [] 0).length):∃r,tries n=sofar n m (i+1)++r:=by
 refine⟨((combs n m [] 0).drop (i+1)).flatMap two++(List.range' (m+1) (n-m)).flatMap λk=>(combs n k [] 0).flatMap two,?_⟩
 have h1:sofar n m (i+1)++((combs n m [] 0).drop (i+1)).flatMap two=B1 n (m+1):=by rw[<-E7];unfold sofar;rw[List.append_assoc, <-List.flatMap_append,List.take_append_drop,List.take_length]
 rw[<-List.append_assoc,h1,S7];unfold B1;rw[<-List.flatMap_append,List.range_eq_range',List.range_eq_range'];congr 1;have :=List.range'_append_1 (s:=0) (m:=m+1) (n:=n-m);rw[Nat.zero_add]at this;rw[this];congr 1;omega
def vA{α:Type}{p:α->Bool}{l:List α}(h:∀x∈l,p x=false):l.find? p=none:=by rw[List.find?_eq_none];intro x hx;rw[h x hx];simp
def eA{n m i:Nat}{p:List Int×Bool->Bool}(hm:m<=n)(hi:i<(combs n m [] 0).length)(h:∀x∈sofar n m i,p x=false):
 (p ((combs n m [] 0)[i],false)=true->(tries n).find? p=some ((combs n m [] 0)[i],false))∧(p ((combs n m [] 0)[i],false)=false->p ((combs n m [] 0)[i],true)=true->(tries n).find? p=some ((combs n m [] 0)[i],true)):=by
 obtain⟨r,hr⟩:=T7 hm hi;have hf:=vA h;rw[hr,N5 hi,List.append_assoc,List.find?_append,hf];constructor
 .intro h1;simp[two,h1]
 .intro h1 h2;simp[two,h1,h2]
def ZG{n m i:Nat}{p:List Int×Bool->Bool}(hi:i<(combs n m [] 0).length)(h:∀x∈sofar n m i,p x=false)(h1:p ((combs n m [] 0)[i],false)=false)(h2:p ((combs n m [] 0)[i],true)=false):∀x∈sofar n m (i+1),p x=false:=by
 rw[N5 hi];intro x hx;rcases List.mem_append.1 hx with hx|hx
 .exact h x hx
 .simp only[two,List.mem_cons,List.not_mem_nil,or_false]at hx;rcases hx with rfl|rfl
  .exact h1
  .exact h2
end Go.Proofs.Tryz
end
section
namespace Go.Proofs
open Go Go.RowKit Go.Maps Go.Proofs.Tryz
variable [Lo.St]
def E1{fn:Func}{t u v x:Tmp}(h:fn.results= #[.tmp t,.tmp u,.tmp v,.tmp x])(tmps:Array Value)(P:Program)(w:World):
 (results fn tmps).run P w=.ok (.tuple #[tmps.getD t undef,tmps.getD u undef,tmps.getD v undef,tmps.getD x undef]) w:=by
 simp[results,h]
def CA(w:World)(b:dO)(e:Ending)(w':World):Prop:=
 Below w.heap.size w w'∧
 if fG b≠0 then e=.returned (.tuple #[.slice none 0 0,.bool false,.bool false,.int .i64 (fG b)])
 else∃A c,e=.returned (.tuple #[.slice A (G2 (fA b (-1)) b.steps.length).1.length c,.bool (G2 (fA b (-1)) b.steps.length).2.1,.bool (G2 (fA b (-1)) b.steps.length).2.2,.int .i64 0])∧xJ w' w'.heap.size A (G2 (fA b (-1)) b.steps.length).1
def eM{n m:Nat}{l:List Int}(h:l∈combs n m [] 0):(∀x∈l,0<=x∧x<(n:Int))∧l.length=m∧A0 l<2^ n:=by obtain⟨y,rfl,h1,h2,h3⟩:=J0.1 h;rw[List.nil_append];refine⟨λx hx=>?_,by simp[Bi,h1],(N2 h2 λi hi=>(h3 i hi).2).1⟩;obtain⟨i,hi,rfl⟩:=List.mem_map.1 hx;have :=h3 i hi;omega
attribute [local irreducible] wpQuiet
def Lo.gA{w:World}{B:Nat}{b:dO}{v:gJ}{x:Value}(hx:x=dY b v)(hb:fC w B b v)(hB:B<=w.heap.size)(hs:b.small)(hbc:GG b v):
 Calls Lo.prog 7 #[x] w (CA w b):=by
 obtain⟨U,U2,U3,U4,U5,U6⟩:=Lo.facts;have C:=Lo.call Tryz.func33;have C2:=Lo.call Tryz.func34;have C3:=Lo.call Tryz.func35;have C4:=Lo.call Tryz.func36;subst hx;obtain⟨X,hX,sX,bX,hA,hC⟩:=cT hb hB;have HC:=Lib.hid hC;have HA:=Lib.hid hA;have HX:=Lib.hid (And.intro hX bX);clear hX bX hA hC hb;obtain⟨f0,f1,f2,f3⟩:=fS (HC.out X (Below.refl _ _));show Calls Lo.prog 7 #[Value.agg (lN b v)] w _;unfold lN;go_enter Lo.get Tryz.func7,Tryz.ntmps7;go_wp2;have hy:=HX.out.1;unfold lN at hy;rw[hy];clear hy;refine(Lo.YR (b:=b) (v:=v) rfl (HA.out X (Below.refl _ _)) (by omega) hs hbc).mono ?_
 rintro e w1⟨rfl,h1⟩;obtain⟨f0,f1,f2,f3⟩:=fS (HC.out w1 h1);obtain⟨cx,hcx⟩:∃cx,fG b=cx:=⟨_,rfl⟩;rw[hcx]
 by_cases z:cx=0
 case neg=>
  have z2:(cx !=0)=true:=by simpa using z
  have WV:=Lib.hid (And.intro hcx h1);clear hcx h1;go_wp2;refine bodyPost_ret (E1 rfl _ _ _) rfl ?_
  refine⟨HX.out.2.trans (WV.out.2.mono (by omega)),?_⟩;rw[if_pos (by rw[WV.out.1];exact z),WV.out.1];rfl
 subst z;have hg:=lM hs hcx;have qT:=hg.n8;have CT:X.heap.size<=w1.heap.size:=h1.size;have WV:=Lib.hid (And.intro hcx (And.intro h1 hg));clear hcx h1 hg;have hb0:Below w.heap.size w w1:=HX.out.2.trans (WV.out.2.1.mono (by omega));have HB0:=Lib.hid hb0;clear hb0;obtain⟨ss,hss⟩:∃ss,fA b (-1)=ss:=⟨_,rfl⟩
 have hp:∀(W:World)(s:Nat)(eO:Bool),Below X.heap.size X W->s<2^ b.steps.length->Calls Lo.prog 35 #[.agg #[.slice v.ah b.dJ.length v.ch,.slice v.ap b.dz.length v.cp,.slice v.iT b.steps.length v.cs,.slice v.ac b.dA.length v.cc],.int .i64 (s:Int),.bool eO] W λe w'=>e=.returned (.bool (gP ss (b.steps.length+1) s eO))∧Below W.heap.size W w':= λW s eO hW h=>by have :=Lo.N3 (b:=b) (v:=v) (w:=W) (B:=B) (s:=s) (eO:=eO) rfl (HA.out W hW) (by have :=hW.size;omega) hs WV.out.1 h;rw[hss]at this;exact this
 have HP:=Lib.hid hp;have HQ:=Lib.hid hss;clear hp hss;go_wp2
 go_loopw [7] (λi wr=>∃m:Nat,m<=b.steps.length+1∧i=.int .i64 (m:Int)∧(∀x∈B1 b.steps.length m,gP ss (b.steps.length+1) (A0 x.1) x.2=false)∧Below w1.heap.size w1 wr) (λi _=>b.steps.length+1-(intOf i).toNat)
 case atStart=>exact⟨0,Nat.zero_le _,rfl, λx hx=>by simp[B1]at hx,Below.refl _ _⟩
 case round=>
  obtain⟨m,hm,rfl,hno,hbw⟩:=hrel;have rS:=WV.out.2.1.trans (hbw.mono CT);obtain⟨f0,f1,f2,f3⟩:=fS (HC.out wr rS);have szr:w1.heap.size<=wr.heap.size:=hbw.size;have HW:=Lib.hid (And.intro hno (And.intro hbw rS));clear hno hbw rS
  by_cases hlt:m<=b.steps.length
  .have hlt':(m:Int)<=(b.steps.length:Int):=by omega
   have nE:Calls Lo.prog 34 #[.slice none 0 0,.int .i64 (m:Int),.int .i64 0,.int .i64 (b.steps.length:Int)] wr (pL wr none (combs b.steps.length m [] 0)):=Lo.AG (by omega) m wr none [] 0 0 (λh=>by simp at h) (λ_=>rfl) (λa h=>by cases h) (by simp;omega) (Nat.zero_le _);have HS:=Lib.hid nE;clear nE;go_wp2
   with_reducible refine HS.out.mono ?_
   rintro e w2⟨ρJ,c8,cells,rfl,hrd,hrows,hb2⟩;have sz2:=hb2.size;have hX2:=HW.out.2.2.trans (hb2.mono (by omega));obtain⟨f0,f1,f2,f3⟩:=fS (HC.out w2 hX2);have HR:=Lib.hid (And.intro hrd (And.intro hrows (And.intro hb2 hX2)));clear hrd hrows hb2 hX2
   have hcnt:(combs b.steps.length m [] 0).length<=65536:=by have h1:=I2 (below:=b.steps.length) (m:=m) (l:=[]) (fr:=0);have h2:(2:Nat)^ (b.steps.length-0)<=2^ 16:=Nat.pow_le_pow_right (by decide) (by omega);omega
   generalize hls:combs b.steps.length m [] 0=ls at HR hcnt;have HL:=Lib.hid hls;clear hls;go_wp2
   go_loopw [9] (λi wq=>∃k:Nat,k<=ls.length∧i=.int .i64 (k:Int)∧(∀x∈sofar b.steps.length m k,gP ss (b.steps.length+1) (A0 x.1) x.2=false)∧Below w2.heap.size w2 wq) (λi _=>ls.length-(intOf i).toNat)
   case atStart=>exact⟨0,Nat.zero_le _,rfl,by rw[DG];exact HW.out.1,Below.refl _ _⟩
   case round=>
    obtain⟨k,hk,rfl,hno,hbq⟩:=hrel;have ui:=HR.out.2.2.2.trans (hbq.mono (by have :=HR.out.2.2.2.size;omega));obtain⟨f0,f1,f2,f3⟩:=fS (HC.out wr ui);have qu:=hbq.size;have hbl:Below w.heap.size w wr:=HX.out.2.trans (ui.mono (by omega));have HN:=Lib.hid (And.intro hno (And.intro hbq (And.intro ui hbl)));clear hno hbq ui hbl
    by_cases hlt2:k<ls.length
    .have xr:(k:Int)<(ls.length:Int):=by omega
     obtain⟨b8,o8,rfl,SN,hc8⟩:=(HR.out.1.keep λb o h=>dH HN.out.2.1 b o (by omega)) (by omega);obtain⟨A,c,ec,hr,h0,hq⟩:=HR.out.2.1.row k hlt2;have hll:ls[k]∈combs b.steps.length m [] 0:=by rw[HL.out];exact List.getElem_mem hlt2
     obtain⟨i1,i2,i3⟩:=eM hll
     have r1:wr.cell? ⟨b8,o8+k,none⟩=some (.slice A ls[k].length c):=by have :=hc8 k 0 hlt2 (by omega);rw[Nat.mul_one,Nat.add_zero]at this;rw[this];show some (cells.getD k undef)=_;rw[List.getD_eq_getElem?_getD,ec];rfl
     have kA:= λ(p:List Int×Bool->Bool)=>eA (n:=b.steps.length) (m:=m) (i:=k) (p:=p) hlt (by rw[HL.out];exact hlt2)
     have hnext:= λ(p:List Int×Bool->Bool)=>ZG (n:=b.steps.length) (m:=m) (i:=k) (p:=p) (by rw[HL.out];exact hlt2)
     simp only[HL.out]at kA hnext;have hr2:xJ wr wr.heap.size A ls[k]:=hr.cut λa e hb=>⟨by omega,HN.out.2.1.block _ hb⟩
     have HF:=Lib.hid (And.intro (kA (λx=>gP ss (b.steps.length+1) (A0 x.1) x.2) HN.out.1) (hnext (λx=>gP ss (b.steps.length+1) (A0 x.1) x.2) HN.out.1));clear hc8 hr ec h0 hq kA hnext hll;generalize ls[k]=l at *;have hpw:(2:Nat)^ b.steps.length<=2^ 16:=Nat.pow_le_pow_right (by decide) (by omega);have HI:=Lib.hid (And.intro i1 (And.intro i3 hr2));have bS:l.length<=40:=by omega
     clear i1 i2 i3 hr2 hpw;have W7:∀W,Below wr.heap.size wr W->Calls Lo.prog 36 #[.slice A l.length c] W λe w'=>e=.returned (.int .i64 (A0 l:Int))∧Below W.heap.size W w':= λW hW=>Lo.M5 (B:=wr.heap.size) (HI.out.2.2.keep λd o h=>dH hW d o (by omega)) (by omega) hW.size (λx hx=>by have :=HI.out.1 x hx;omega) (by have :=HI.out.2.1;have:(2:Nat)^ b.steps.length<=2^ 16:=Nat.pow_le_pow_right (by decide) (by omega);omega)
     have zk:=Lib.hid W7;clear W7
     have hS:∀W,Below wr.heap.size wr W->W.cell? ⟨w.heap.size,0,none⟩=some (.slice v.ah b.dJ.length v.ch)∧W.cell? ⟨w.heap.size,1,none⟩=some (.slice v.ap b.dz.length v.cp)∧W.cell? ⟨w.heap.size,2,none⟩=some (.slice v.iT b.steps.length v.cs)∧W.cell? ⟨w.heap.size,3,none⟩=some (.slice v.ac b.dA.length v.cc)∧W.cell? ⟨b8,o8+k,none⟩=some (.slice A l.length c):= λW hW=>by obtain⟨f0,f1,f2,f3⟩:=fS (HC.out W (HN.out.2.2.1.trans (hW.mono (by omega))));exact⟨f0,f1,f2,f3,(dH hW _ _ (by omega)).trans r1⟩
     have HS:=Lib.hid hS;clear hS r1 f0 f1 f2 f3;obtain⟨Cl,tS⟩:∃Cl:World->Prop,∀W,Cl W↔Below wr.heap.size wr W:=⟨_, λ_=>Iff.rfl⟩;have jI:=Lib.hid tS;clear tS;obtain⟨f0,f1,f2,f3,f4⟩:=HS.out wr (Below.refl _ _);go_wp2;refine iH (C:=Cl) Lo.mixed (by kernel_rfl) ((jI.out _).2 (Below.refl _ _).drew) ?_
     repeat
      refine wpQuiet_step (λK hK=>?_);go_simp
      first
       |(apply Exists.intro;refine⟨λW hW=>?_,hK _ ?_⟩
         .obtain⟨f0,f1,f2,f3,f4⟩:=HS.out W ((jI.out W).1 hW)
          first
           |(with_reducible refine(zk.out W ((jI.out W).1 hW)).mono ?_;rintro e w9⟨rfl,h9⟩;exact⟨rfl,(jI.out _).2 (((jI.out W).1 hW).trans (h9.mono ((jI.out W).1 hW).size))⟩)
           |(with_reducible refine(HP.out W (A0 l) false (HN.out.2.2.1.trans (((jI.out W).1 hW).mono (by omega))) HI.out.2.1).mono ?_;rintro e w9⟨rfl,h9⟩;exact⟨rfl,(jI.out _).2 (((jI.out W).1 hW).trans (h9.mono ((jI.out W).1 hW).size))⟩)
           |rfl
           |(go_simp;rfl)
         clear hK K)
       |(refine hK _ ?_;clear hK K)
     refine wpQuiet_nil ?_
     clear f0 f1 f2 f3 f4;intro z1 hb1;replace hb1:=(jI.out _).1 hb1;obtain⟨f0,f1,f2,f3,f4⟩:=HS.out z1 hb1;cases hv:gP ss (b.steps.length+1) (A0 l) false with
     |true=>
      have HV:=Lib.hid (HF.out.1.1 hv);clear hv;go_wp2;refine bodyPost_ret (E1 rfl _ _ _) rfl ?_
      refine⟨HN.out.2.2.2.trans (hb1.mono (by omega)),?_⟩;have e:G2 (fA b (-1)) b.steps.length=(l,false,true):=by unfold G2 eL;rw[HQ.out,HV.out]
      rw[if_neg (by rw[WV.out.1];simp),e];exact⟨A,c,rfl,HI.out.2.2.cut λa e hb=>⟨by have :=hb1.size;omega,hb1.block _ hb⟩⟩
     |false=>
      have HV:=Lib.hid hv;clear hv;go_wp2;refine iH (C:=Cl) Lo.mixed (by kernel_rfl) ((jI.out _).2 hb1.drew) ?_
      repeat
       refine wpQuiet_step (λK hK=>?_);go_simp
       first
        |(apply Exists.intro;refine⟨λW hW=>?_,hK _ ?_⟩
          .obtain⟨f0,f1,f2,f3,f4⟩:=HS.out W ((jI.out W).1 hW)
           first
            |(with_reducible refine(zk.out W ((jI.out W).1 hW)).mono ?_;rintro e w9⟨rfl,h9⟩;exact⟨rfl,(jI.out _).2 (((jI.out W).1 hW).trans (h9.mono ((jI.out W).1 hW).size))⟩)
            |(with_reducible refine(HP.out W (A0 l) true (HN.out.2.2.1.trans (((jI.out W).1 hW).mono (by omega))) HI.out.2.1).mono ?_;rintro e w9⟨rfl,h9⟩;exact⟨rfl,(jI.out _).2 (((jI.out W).1 hW).trans (h9.mono ((jI.out W).1 hW).size))⟩)
            |rfl
            |(go_simp;rfl)
          clear hK K)
        |(refine hK _ ?_;clear hK K)
      refine wpQuiet_nil ?_
      clear f0 f1 f2 f3 f4;intro z2 hb2;replace hb2:=(jI.out _).1 hb2;obtain⟨f0,f1,f2,f3,f4⟩:=HS.out z2 hb2;cases hv:gP ss (b.steps.length+1) (A0 l) true with
      |true=>
       have xn:=Lib.hid (HF.out.1.2 HV.out hv);clear hv;go_wp2;refine bodyPost_ret (E1 rfl _ _ _) rfl ?_
       refine⟨HN.out.2.2.2.trans (hb2.mono (by omega)),?_⟩;have e:G2 (fA b (-1)) b.steps.length=(l,true,true):=by unfold G2 eL;rw[HQ.out,xn.out]
       rw[if_neg (by rw[WV.out.1];simp),e];exact⟨A,c,rfl,HI.out.2.2.cut λa e hb=>⟨by have :=hb2.size;omega,hb2.block _ hb⟩⟩
      |false=>
       have xn:=Lib.hid hv;clear hv;go_wp2;go_roundw
       case rel=>exact⟨k+1,by omega,by go_num,HF.out.2 HV.out xn.out,HN.out.2.1.trans (hb2.mono qu)⟩
       case measure=>simp[intOf];omega
    .obtain rfl:k=ls.length:=by omega
     have hno:=HN.out.1;rw[show ls=combs b.steps.length m [] 0 from HL.out.symm,E7]at hno;have HNO:=Lib.hid hno;clear hno;go_wp2;go_roundw
     case rel=>exact⟨m+1,by omega,by go_num,HNO.out,HW.out.2.1.trans ((HR.out.2.2.1.trans (HN.out.2.1.mono (by omega))).mono (by omega))⟩
     case measure=>simp[intOf];omega
  .obtain rfl:m=b.steps.length+1:=by omega
   have e:G2 (fA b (-1)) b.steps.length=([],false,false):=by unfold G2 eL;rw[HQ.out,S7,vA HW.out.1]
   have HE:=Lib.hid e;clear e;go_wp2;refine bodyPost_ret (E1 rfl _ _ _) rfl ?_
   refine⟨HB0.out.trans (HW.out.2.1.mono HB0.out.size),?_⟩;rw[if_neg (by rw[WV.out.1];simp),HE.out];exact⟨none,0,rfl, λh=>by simp at h⟩
end Go.Proofs
end
section
namespace Go.Proofs
open Go Go.RowKit Go.Maps Go.Proofs.Tryz
variable [Lo.St]
def DA{n:Nat}:∀{l:List Int}{p:Int},R1 n p l=0->∀x∈l,0<=x∧x<(n:Int)
 | [],_,_,x,hx=>by simp at hx
 |a::l,p,h,x,hx=>by
  unfold R1 at h;split at h
  .omega
  .rename_i h1;split at h
   .omega
   .rcases List.mem_cons.1 hx with rfl|hx
    .simp[kH]at h1;omega
    .exact DA h x hx
attribute [local irreducible] wpQuiet
def Lo.yM{w:World}{B:Nat}{b:dO}{v:gJ}{x:Value}{A:Option Addr}{l:List Int}{cl:Nat}{eO:Bool}(hx:x=dY b v)(hb:fC w B b v)(hB:B<=w.heap.size)(hs:b.small)(hbc:GG b v)(hr:xJ w B A l)(hl:l.length<=64):
 Calls Lo.prog 10 #[x,.slice A l.length cl,.bool eO] w (GP w b l eO):=by
 obtain⟨U,U2,U3,U4,U5,U6⟩:=Lo.facts;have C:=Lo.call Tryz.func33;have C2:=Lo.call Tryz.func38;have C3:=Lo.call Tryz.func35;have C4:=Lo.call Tryz.func36;subst hx;obtain⟨X,hX,sX,bX,hA,hC⟩:=cT hb hB;have HC:=Lib.hid hC;have HA:=Lib.hid hA;have HX:=Lib.hid (And.intro hX bX);have HR:=Lib.hid hr;clear hX bX hA hC hb hr;obtain⟨f0,f1,f2,f3⟩:=fS (HC.out X (Below.refl _ _));show Calls Lo.prog 10 #[Value.agg (lN b v),_,_] w _;unfold lN;go_enter Lo.get Tryz.func10,Tryz.ntmps10;go_wp2;have hy:=HX.out.1;unfold lN at hy;rw[hy];clear hy;refine(Lo.YR (b:=b) (v:=v) rfl (HA.out X (Below.refl _ _)) (by omega) hs hbc).mono ?_
 rintro e w1⟨rfl,h1⟩;obtain⟨f0,f1,f2,f3⟩:=fS (HC.out w1 h1);obtain⟨cx,hcx⟩:∃cx,fG b=cx:=⟨_,rfl⟩;rw[hcx]
 by_cases z:cx=0
 case neg=>
  have z2:(cx !=0)=true:=by simpa using z
  have WV:=Lib.hid (And.intro hcx h1);clear hcx h1;go_wp2
  go_ret2
  refine⟨HX.out.2.trans (WV.out.2.mono (by omega)),?_⟩;rw[if_pos (by rw[WV.out.1];exact z),WV.out.1];rfl
 subst z;have hg:=lM hs hcx;have qT:=hg.n8;have CT:X.heap.size<=w1.heap.size:=h1.size;have WV:=Lib.hid (And.intro hcx (And.intro h1 hg));clear hcx h1 hg;go_wp2
 go_loopw [9] (λi wr=>∃k q:Nat,k<=l.length∧i=.int .i64 (k:Int)∧dT b.steps.length l k q∧Below w1.heap.size w1 wr) (λi _=>l.length-(intOf i).toNat)
 case atStart=>exact⟨0,0,Nat.zero_le _,rfl,dT.start _ _,Below.refl _ _⟩
 case round=>
  obtain⟨k,q,hk,rfl,hp,hbw⟩:=hrel;have rS:=WV.out.2.1.trans (hbw.mono CT);obtain⟨f0,f1,f2,f3⟩:=fS (HC.out wr rS);have szr:w1.heap.size<=wr.heap.size:=hbw.size;have hrr:xJ wr B A l:=HR.out.keep λd o h=>dH (HX.out.2.trans (rS.mono HX.out.2.size)) d o (by omega)
  have hbl:Below w.heap.size w wr:=HX.out.2.trans (rS.mono (by omega));have HW:=Lib.hid (And.intro hbw (And.intro rS hbl));clear hbw rS hbl
  by_cases hlt:k<l.length
  .have hlt':(k:Int)<(l.length:Int):=by omega
   obtain⟨b1,o1,rfl,hb1,hc1⟩:=hrr (by omega);have r1:=PT hc1 hlt
   have r2:∀j:Nat,k=j+1->wr.cell? ⟨b1,o1+j,none⟩=some (.int .i64 (N0 l k)):= λj hj=>by subst hj;rw[PT hc1 (by omega),J1 (by omega)]
   have HP:=Lib.hid hp;have wl:IntKind.i64.wrap ((b.steps.length:Int)-1)=(b.steps.length:Int)-1:=by rw[IntKind.wrap_i64];omega
   have RT:=Lib.hid hlt;clear hc1 hp hrr;obtain⟨x,hx⟩:∃x,l[k]'hlt=x:=⟨_,rfl⟩;replace r1:wr.cell? ⟨b1,o1+k,none⟩=some (.int .i64 x):=by rw[<-hx];exact r1
   have bT:=Lib.hid hx;clear hx;obtain⟨p,hpv⟩:∃p,N0 l k=p:=⟨_,rfl⟩;rw[hpv]at r2;have bU:=Lib.hid hpv;clear hpv
   have hS:∀W,Below wr.heap.size wr W->W.cell? ⟨w.heap.size,2,none⟩=some (.slice v.iT b.steps.length v.cs)∧W.cell? ⟨b1,o1+k,none⟩=some (.int .i64 x)∧∀j:Nat,k=j+1->W.cell? ⟨b1,o1+j,none⟩=some (.int .i64 p):= λW hW=>by obtain⟨f0,f1,f2,f3⟩:=fS (HC.out W (HW.out.2.1.trans (hW.mono (by omega))));exact⟨f2,(dH hW _ _ (by omega)).trans r1, λj hj=>(dH hW _ _ (by omega)).trans (r2 j hj)⟩
   have HS:=Lib.hid hS;clear hS r1 r2 f0 f1 f2 f3;obtain⟨Cl,tS⟩:∃Cl:World->Prop,∀W,Cl W↔Below wr.heap.size wr W:=⟨_, λ_=>Iff.rfl⟩;have jI:=Lib.hid tS;clear tS;obtain⟨f2,r1, -⟩:=HS.out wr (Below.refl _ _);go_wp2;refine iH (C:=Cl) Lo.mixed (by kernel_rfl) ((jI.out _).2 (Below.refl _ _).drew) ?_
   repeat
    refine wpQuiet_step (λK hK=>?_);go_simp
    first
     |(apply Exists.intro;refine⟨λW hW=>?_,hK _ ?_⟩
       .obtain⟨f2,r1, -⟩:=HS.out W ((jI.out W).1 hW)
        first
         |(with_reducible refine(Lo.vF _ _ _ _).mono ?_;rintro e w9⟨rfl,rfl⟩;exact⟨rfl,hW⟩)
         |rfl
         |(go_simp;rfl)
         |(go_simp;go_at_call 38;refine(Lo.vF _ _ _ _).mono ?_;rintro e w9⟨rfl,rfl⟩;exact⟨rfl,hW⟩)
       clear hK K)
     |(refine hK _ ?_;clear hK K)
   refine wpQuiet_nil ?_
   clear f2 r1;intro z1 hb1;replace hb1:=(jI.out _).1 hb1;have HB1:=Lib.hid hb1;clear hb1;cases hbt:kH x 0 ((b.steps.length:Int)-1)with
   |false=>
    have HB:=Lib.hid hbt;clear hbt;go_wp2
    go_ret2
    refine⟨HW.out.2.2.trans (HB1.out.mono (by have :=HW.out.2.2.size;omega)),?_⟩;have h6:R1 b.steps.length (-1) l=6:=by rw[HP.out.eq,E2 RT.out,bT.out,if_pos HB.out]
    rw[if_neg (by rw[WV.out.1];simp),if_pos (by rw[h6];decide),h6];rfl
   |true=>
    have hx0:0<=x∧x<=(b.steps.length:Int)-1:=by simpa[kH]using hbt
    have HB:=Lib.hid hbt;clear hbt;obtain⟨f2,r1,r3⟩:=HS.out z1 HB1.out
    by_cases hle:x<=p
    .obtain⟨j,rfl⟩:∃j,k=j+1:=by
      cases k with
      |zero=>have :=bU.out;simp[N0]at this;omega
      |succ j=>exact⟨j,rfl⟩
     replace r3:=r3 j rfl;have d1:decide (((j+1:Nat):Int)> 0)=true:=decide_eq_true (by omega);have d2:decide (x<=p)=true:=decide_eq_true hle;have wj:IntKind.i64.wrap (((j+1:Nat):Int)-1)=(j:Int):=by rw[IntKind.wrap_i64];omega
     have hj':(j:Int)<(l.length:Int):=by omega
     have cU:=Lib.hid hle;clear hle;go_wp2
     go_quiet(fail)
     go_wp2
     go_ret2
     refine⟨below_drewN (HW.out.2.2.trans (HB1.out.mono (by have :=HW.out.2.2.size;omega))) _,?_⟩;have h6:R1 b.steps.length (-1) l=7:=by rw[HP.out.eq,E2 RT.out,bT.out,if_neg (by rw[HB.out];simp),bU.out,if_pos cU.out]
     rw[if_neg (by rw[WV.out.1];simp),if_pos (by rw[h6];decide),h6];rfl
    .have hst:=HP.out.step RT.out (by rw[bT.out];exact HB.out) (by rw[bT.out,bU.out];exact hle);have HST:=Lib.hid hst.1;clear hst;cases k with
     |zero=>
      have cU:=Lib.hid hle;clear hle r3;go_wp2
      go_quiet(fail)
      go_wp2;go_roundw
      case rel=>exact⟨1,_,by omega,by go_num,HST.out,below_drewN (HW.out.1.trans (HB1.out.mono szr)) _⟩
      case measure=>simp[intOf];omega
     |succ j=>
      replace r3:=r3 j rfl;have d1:decide (((j+1:Nat):Int)> 0)=true:=decide_eq_true (by omega);have d2:decide (x<=p)=false:=decide_eq_false hle;have wj:IntKind.i64.wrap (((j+1:Nat):Int)-1)=(j:Int):=by rw[IntKind.wrap_i64];omega
      have hj':(j:Int)<(l.length:Int):=by omega
      have cU:=Lib.hid hle;clear hle;go_wp2
      go_quiet(fail)
      go_wp2;go_roundw
      case rel=>exact⟨j+1+1,_,by omega,by go_num,HST.out,below_drewN (HW.out.1.trans (HB1.out.mono szr)) _⟩
      case measure=>simp[intOf];omega
  .obtain rfl:k=l.length:=by omega
   have hlast:=hp.last;have hin:=DA hlast.1;have hpw:(2:Nat)^ b.steps.length<=2^ 16:=Nat.pow_le_pow_right (by decide) (by omega);have HI:=Lib.hid (And.intro hlast (And.intro hin hrr));have W7:∀W,Below wr.heap.size wr W->Calls Lo.prog 36 #[.slice A l.length cl] W λe w'=>e=.returned (.int .i64 (A0 l:Int))∧Below W.heap.size W w':= λW hW=>Lo.M5 (B:=B) (HI.out.2.2.keep λd o h=>dH hW d o (by have :=HW.out.2.2.size;omega)) hl (by have :=HW.out.2.2.size;have :=hW.size;omega) (λx hx=>by have :=HI.out.2.1 x hx;omega) (by have :=HI.out.1.2.2;have :=HI.out.1.2.1;omega)
   have zk:=Lib.hid W7;clear W7 hpw hin hlast hrr hp
   have gR:∀(W:World),Below wr.heap.size wr W->Calls Lo.prog 35 #[.agg #[.slice v.ah b.dJ.length v.ch,.slice v.ap b.dz.length v.cp,.slice v.iT b.steps.length v.cs,.slice v.ac b.dA.length v.cc],.int .i64 (A0 l:Int),.bool eO] W λe w'=>e=.returned (.bool (gP (fA b (-1)) (b.steps.length+1) (A0 l) eO))∧Below W.heap.size W w':= λW hW=>
    Lo.N3 (b:=b) (v:=v) (w:=W) (B:=B) (s:=A0 l) (eO:=eO) rfl (HA.out W (HW.out.2.1.trans (hW.mono (by have :=HW.out.2.1.size;omega)))) (by have :=HW.out.2.2.size;have :=hW.size;omega) hs WV.out.1 (by have :=HI.out.1.2.2;have :=HI.out.1.2.1;omega)
   have lR:=Lib.hid gR;clear gR
   have hS:∀W,Below wr.heap.size wr W->W.cell? ⟨w.heap.size,0,none⟩=some (.slice v.ah b.dJ.length v.ch)∧W.cell? ⟨w.heap.size,1,none⟩=some (.slice v.ap b.dz.length v.cp)∧W.cell? ⟨w.heap.size,2,none⟩=some (.slice v.iT b.steps.length v.cs)∧W.cell? ⟨w.heap.size,3,none⟩=some (.slice v.ac b.dA.length v.cc):= λW hW=>
    fS (HC.out W (HW.out.2.1.trans (hW.mono (by have :=HW.out.2.1.size;omega))))
   have HS:=Lib.hid hS;clear hS;obtain⟨Cl,tS⟩:∃Cl:World->Prop,∀W,Cl W↔Below wr.heap.size wr W:=⟨_, λ_=>Iff.rfl⟩;have jI:=Lib.hid tS;clear tS;generalize hbs:A0 l=bs at zk lR;have th:=Lib.hid hbs;clear hbs;go_wp2;refine iH (C:=Cl) Lo.mixed (by kernel_rfl) ((jI.out _).2 (Below.refl _ _).drew) ?_
   repeat
    refine wpQuiet_step (λK hK=>?_);go_simp
    first
     |(apply Exists.intro;refine⟨λW hW=>?_,hK _ ?_⟩
       .obtain⟨f0,f1,f2,f3⟩:=HS.out W ((jI.out W).1 hW)
        first
         |(with_reducible refine(zk.out W ((jI.out W).1 hW)).mono ?_;rintro e w9⟨rfl,h9⟩;exact⟨rfl,(jI.out _).2 (((jI.out W).1 hW).trans (h9.mono ((jI.out W).1 hW).size))⟩)
         |(with_reducible refine(lR.out W ((jI.out W).1 hW)).mono ?_;rintro e w9⟨rfl,h9⟩;exact⟨rfl,(jI.out _).2 (((jI.out W).1 hW).trans (h9.mono ((jI.out W).1 hW).size))⟩)
         |rfl
         |(go_simp;rfl)
       clear hK K)
     |(refine hK _ ?_;clear hK K)
   refine wpQuiet_nil ?_
   clear f0 f1 f2 f3;intro z1 hb1;replace hb1:=(jI.out _).1 hb1;go_wp2
   go_ret2
   refine⟨HW.out.2.2.trans (hb1.mono (by have :=HW.out.2.2.size;omega)),?_⟩;rw[if_neg (by rw[WV.out.1];simp),if_neg (by rw[HI.out.1.1];simp),th.out];rfl
end Go.Proofs
end
section
namespace Go.Proofs
open Go Go.RowKit Go.Maps Go.Proofs.Tryz
noncomputable def Tryz.bodyY:Code:=Tryz.f3.body.getD .skip
noncomputable def Tryz.B6:Array Oper:=((gG 3 Tryz.bodyY).getD (#[],.skip)).1
noncomputable def Tryz.xi:Code:=((gG 3 Tryz.bodyY).getD (#[],.skip)).2
variable [Lo.St]
def F0(b:dO):List Int×Bool×Bool×Int:=if fG b≠0 then([],false,false,fG b)else((G2 (fA b (-1)) b.steps.length).1,(G2 (fA b (-1)) b.steps.length).2.1,(G2 (fA b (-1)) b.steps.length).2.2,0)
def sT(b:dO)(l:List Int)(m:Bool):Bool×Int:=if fG b≠0 then(false,fG b)else if R1 b.steps.length (-1) l≠0 then(false,R1 b.steps.length (-1) l)else(gP (fA b (-1)) (b.steps.length+1) (A0 l) m,0)
def d8{w w':World}{b:dO}{e:Ending}(h:CA w b e w'):Below w.heap.size w w'∧∃A c,e=.returned (.tuple #[.slice A (F0 b).1.length c,.bool (F0 b).2.1,.bool (F0 b).2.2.1,.int .i64 (F0 b).2.2.2])∧xJ w' w'.heap.size A (F0 b).1:=by
 obtain⟨h1,h2⟩:=h;refine⟨h1,?_⟩;unfold F0;split at h2
 .rename_i hc;rw[if_pos hc];exact⟨none,0,h2, λh=>by simp at h⟩
 .rename_i hc;rw[if_neg hc];exact h2
def m8{w w':World}{b:dO}{l:List Int}{m:Bool}{e:Ending}(h:GP w b l m e w'):Below w.heap.size w w'∧e=.returned (.tuple #[.bool (sT b l m).1,.int .i64 (sT b l m).2]):=by
 obtain⟨h1,h2⟩:=h;refine⟨h1,?_⟩;unfold sT;split at h2
 .rename_i hc;rw[if_pos hc];exact h2
 .rename_i hc;rw[if_neg hc];split at h2
  .rename_i hp;rw[if_pos hp];exact h2
  .rename_i hp;rw[if_neg hp];exact h2
structure yn(B:Nat)(w0:World)(b:dO)(v:gJ)(A:Option Addr)(l:List Int)(cl:Nat)(m:Bool)(a:Act)(w:World):Prop where
 d:a.defers= []
 sz:a.tmps.size=83
 e1:a.tmps[1]?=some (.slice A l.length cl)
 e2:a.tmps[2]?=some (.bool m)
 e3:a.tmps[3]?=some (.pointer (some ⟨w0.heap.size,0,none⟩))
 tU:Below w0.heap.size w0 w
 box:w.heap[w0.heap.size]?=some (.cells #[.slice v.ah b.dJ.length v.ch,.slice v.ap b.dz.length v.cp,.slice v.iT b.steps.length v.cs,.slice v.ac b.dA.length v.cc] 26)
def Lo.E6{w:World}{B:Nat}{b:dO}{v:gJ}{A:Option Addr}{l:List Int}{cl:Nat}{m:Bool}(h5:Gk)(hb:fC w B b v)(hB:B<=w.heap.size)(hx:Dz b=true∨40<l.length):
 Tryz.bodyY.wp Lo.prog (bodyPost Lo.prog Tryz.f3 λe w'=>∃x,e=.returned x∧x=.bool true) ⟨#[dY b v,.slice A l.length cl,.bool m]++Array.replicate 80 undef,[]⟩ w:=by
 obtain⟨U,U2,U3,U4,U5,U6⟩:=Lo.facts;have C:=Lo.call Tryz.func4;have C3:=Lo.call5;have H5:=Lib.hid h5;obtain⟨X,hX,sX,bX,hA,hC⟩:=cT hb hB;have HC:=Lib.hid hC;have HA:=Lib.hid hA;have HX:=Lib.hid (And.intro hX bX);have bT:=Lib.hid hx;clear hX bX hA hC hb h5 hx;obtain⟨f0,f1,f2,f3⟩:=fS (HC.out X (Below.refl _ _));unfold dY;simp only[Tryz.bodyY,Tryz.f3,Option.getD_some,Array.replicate_succ,Array.replicate_zero,List.push_toArray,List.append_toArray,List.nil_append,List.cons_append];go_wp2;have hy:=HX.out.1;unfold lN at hy;rw[hy];clear hy;refine(Lo.kx (b:=b) (v:=v) rfl (HA.out X (Below.refl _ _)) (by omega)).mono ?_
 rintro e w1⟨rfl,h1⟩;cases hg:Dz b with
 |true=>
  go_wp2;refine(H5.out _).mono ?_
  rintro e w5⟨rfl,rfl⟩;go_wp2;go_ret
  first|rfl|exact⟨_,rfl,rfl⟩
 |false=>
  have hcx:=bT.out.resolve_left (by rw[hg];simp);have z2:decide ((l.length:Int)> 40)=true:=decide_eq_true (by omega);clear hg hcx;go_wp2;refine(H5.out _).mono ?_
  rintro e w5⟨rfl,rfl⟩;go_wp2;go_ret
  first|rfl|exact⟨_,rfl,rfl⟩
def Lo.N6{w0 w w':World}{B:Nat}{b:dO}{v v':gJ}{A Ap:Option Addr}{l:List Int}{cl cp:Nat}{m:Bool}{a:Act}(h5:Gk)(hb:fC w0 B b v)(hB:B<=w0.heap.size)(hbc:GG b v)(hs:b.small)(hl:l.length<=40)(hr:xJ w0 B A l)(hT:yn B w0 b v A l cl m a w)(hsz:w.heap.size<=w'.heap.size)(hsame:∀x,x<w.heap.size->w'.heap[x]?=w.heap[x]?)
 (hp:xJ w' w'.heap.size Ap (F0 b).1) (h16:(F0 b).1.length<=16):
 wpOps Lo.prog Tryz.B6 (λe a w=>e=.normal∧Tryz.xi.wp Lo.prog (bodyPost Lo.prog Tryz.f3 λe w'=>∃x,e=.returned x∧x=.bool true) a w) (List.range' 2 9) ((a.put (some 26) (dY b v')).put (some 27) (.tuple #[.slice Ap (F0 b).1.length cp,.bool (F0 b).2.1,.bool (F0 b).2.2.1,.int .i64 (F0 b).2.2.2])) w':=by
 obtain⟨U,U2,U3,U4,U5,U6⟩:=Lo.facts;have C3:=Lo.call5;have C4:=Lo.call Tryz.func7;have C5:=Lo.call Tryz.func8;have C6:=Lo.call Tryz.func9;have C7:=Lo.call Tryz.func10;have H5:=Lib.hid h5;obtain⟨d,sz,e1,e2,e3,tU,box⟩:=hT;have hbx:w0.heap.size<w.heap.size:=(Array.getElem?_eq_some_iff.1 box).1;have hbl:Below w0.heap.size w0 w'->True:= λ_=>trivial
 have hb':fC w' B b v:=hb.keep λx o hx=>(E3 (hsame x (by omega)) o).trans (E3 (tU.block x (by omega)) o)
 have hr':xJ w' B A l:=hr.keep λx o hx=>(E3 (hsame x (by omega)) o).trans (E3 (tU.block x (by omega)) o)
 have sR:=(hsame _ hbx).trans box;have HB:=Lib.hid (And.intro hb' (And.intro hr' (And.intro sR hp)));have hB':B<=w'.heap.size:=by omega
 obtain⟨T,δi⟩:=a;dsimp only at d sz e1 e2 e3;subst d;have g1:=z6 e1;have g2:=z6 e2;have g3:=z6 e3;clear hb hb' hr hr' sR box tU hsame e1 e2 e3 h5 hp hbl;refine cL (by kernel_rfl) ?_
 simp only[Tryz.B6,Tryz.xi,Tryz.bodyY,Tryz.f3,gG,jF,Option.getD_some,Nat.reduceEqDiff,if_true,if_false,reduceIte,List.drop_succ_cons,List.drop_zero]
 have hP:∀W,Below w'.heap.size w' W->Calls Lo.prog 7 #[.agg #[.slice v.ah b.dJ.length v.ch,.slice v.ap b.dz.length v.cp,.slice v.iT b.steps.length v.cs,.slice v.ac b.dA.length v.cc]] W λe w2=>Below W.heap.size W w2∧∃A c,e=.returned (.tuple #[.slice A (F0 b).1.length c,.bool (F0 b).2.1,.bool (F0 b).2.2.1,.int .i64 (F0 b).2.2.2])∧xJ w2 w2.heap.size A (F0 b).1:= λW hW=>
  (Lo.gA (b:=b) (v:=v) (B:=B) rfl (HB.out.1.keep λx o hx=>dH hW x o (by omega)) (by have :=hW.size;omega) hs hbc).mono λe w2 h=>d8 h
 have hV:∀W,Below w'.heap.size w' W->Calls Lo.prog 9 #[.agg #[.slice v.ah b.dJ.length v.ch,.slice v.ap b.dz.length v.cp,.slice v.iT b.steps.length v.cs,.slice v.ac b.dA.length v.cc],.slice A l.length cl,.bool m] W λe w2=>Below W.heap.size W w2∧e=.returned (.tuple #[.bool (sT b l m).1,.int .i64 (sT b l m).2]):= λW hW=>
  (Lo.r7 (b:=b) (v:=v) (B:=B) rfl (HB.out.1.keep λx o hx=>dH hW x o (by omega)) (by have :=hW.size;omega) hs (HB.out.2.1.keep λx o hx=>dH hW x o (by omega)) (by omega)).mono λe w2 h=>m8 h
 have hV2:∀W,Below w'.heap.size w' W->Calls Lo.prog 10 #[.agg #[.slice v.ah b.dJ.length v.ch,.slice v.ap b.dz.length v.cp,.slice v.iT b.steps.length v.cs,.slice v.ac b.dA.length v.cc],.slice A l.length cl,.bool m] W λe w2=>Below W.heap.size W w2∧e=.returned (.tuple #[.bool (sT b l m).1,.int .i64 (sT b l m).2]):= λW hW=>
  (Lo.yM (b:=b) (v:=v) (B:=B) rfl (HB.out.1.keep λx o hx=>dH hW x o (by omega)) (by have :=hW.size;omega) hs hbc (HB.out.2.1.keep λx o hx=>dH hW x o (by omega)) (by omega)).mono λe w2 h=>m8 h
 have HV:=Lib.hid (And.intro hP (And.intro hV hV2));clear hP hV hV2;generalize F0 b=sp at *;obtain⟨s1,s2,s3,s4⟩:=sp;generalize sT b l m=pv at *;obtain⟨p1,p2⟩:=pv;dsimp only at *;obtain⟨f0,f1,f2,f3⟩:=fS HB.out.2.2.1;revert g1 g2 g3;apply ng sz
 iterate 83 intro _
 rintro⟨⟩⟨⟩⟨⟩;simp only[Act.put,List.setIfInBounds_toArray,List.set_cons_succ,List.set_cons_zero];go_wp2;refine(HV.out.1 w' (Below.refl _ _)).mono ?_
 rintro e w3⟨h3,A2,c2,rfl,hr2⟩;have s3':=h3.size;obtain⟨f0,f1,f2,f3⟩:=fS ((h3.block _ (by omega)).trans HB.out.2.2.1);have H3:=Lib.hid (And.intro h3 hr2);clear h3 hr2;go_wp2;have n1:(s2 !=s2)=false:=by simp
 have n2:(s3 !=s3)=false:=by simp
 have n3:(s4 !=s4)=false:=by simp
 have q1:(p1==p1)=true:=by simp
 have q2:(p2==p2)=true:=by simp
 refine(Lo.Sa (B:=w3.heap.size) (HB.out.2.2.2.cut λa e hb=>⟨by omega,H3.out.1.block _ hb⟩) H3.out.2 (by omega) (by omega) (Nat.le_refl _)).mono ?_
 rintro e w4⟨rfl,h4⟩;rw[decide_eq_true rfl];replace h4:=H3.out.1.trans (h4.mono s3');have s4':=h4.size;obtain⟨f0,f1,f2,f3⟩:=fS ((h4.block _ (by omega)).trans HB.out.2.2.1);have H4:=Lib.hid h4;clear h4;go_wp2;refine(HV.out.2.1 w4 H4.out).mono ?_
 rintro e w5⟨h5,rfl⟩;replace h5:=H4.out.trans (h5.mono s4');have s5':=h5.size;obtain⟨f0,f1,f2,f3⟩:=fS ((h5.block _ (by omega)).trans HB.out.2.2.1);have H5':=Lib.hid h5;clear h5;go_wp2;refine(HV.out.2.2 w5 H5'.out).mono ?_
 rintro e w6⟨h6,rfl⟩;go_wp2;refine(H5.out _).mono ?_
 rintro e w7⟨rfl,rfl⟩;go_wp2;go_ret;rfl
def Lo.r8{w:World}{B:Nat}{b:dO}{v:gJ}{A:Option Addr}{l:List Int}{cl:Nat}{m:Bool}{z pT:Code}(hz:z=.seq (.region 3 Tryz.B6 false) Tryz.xi)(hb:fC w B b v)(hB:B<=w.heap.size)(hg:Dz b=false)(hl:l.length<=40):
 cS.Z1 Lo.prog (Conc.base 3) [] [cS.stk] (SU 3 (λo a w'=>o=b∧yn B w b v A l cl m a w') (λ_ _=>False) z pT) Tryz.bodyY ⟨#[dY b v,.slice A l.length cl,.bool m]++Array.replicate 80 undef,[]⟩ w:=by
 obtain⟨U,U2,U3,U4,U5,U6⟩:=Lo.facts;have C:=Lo.call Tryz.func4;obtain⟨X,hX,sX,bX,hA,hC⟩:=cT hb hB;have z2:decide ((l.length:Int)> 40)=false:=decide_eq_false (by omega);have HC:=Lib.hid hC;have HA:=Lib.hid hA;have HX:=Lib.hid (And.intro hX bX);have HG:=Lib.hid hg;have HZ:=Lib.hid hz;have HLL:=Lib.hid hl;clear hX bX hA hC hb hg hz hl;obtain⟨f0,f1,f2,f3⟩:=fS (HC.out X (Below.refl _ _));unfold dY;simp only[Tryz.bodyY,Tryz.f3,Option.getD_some,Array.replicate_succ,Array.replicate_zero,List.push_toArray,List.append_toArray,List.nil_append,List.cons_append];refine cS.Z1.seq ?_
 go_wp2;have hy:=HX.out.1;unfold lN at hy;rw[hy];clear hy;refine cS.Z1.seq ?_
 go_wp2;refine(Lo.kx (b:=b) (v:=v) rfl (HA.out X (Below.refl _ _)) (by omega)).mono ?_
 rintro e w1⟨rfl,h1⟩;have H1:=Lib.hid h1;clear h1 f0 f1 f2 f3;rw[HG.out];go_wp2;refine cS.eJ (HZ.out.trans (by kernel_rfl)) (.inl ⟨b,_,⟨rfl,rfl,rfl,rfl,rfl,rfl,HX.out.2.trans (H1.out.mono (by omega)),HC.out w1 H1.out⟩,by rw[HZ.out]⟩)
end Go.Proofs
end
section
namespace Go.Proofs
open Go Go.RowKit Go.Maps Go.Proofs.Tryz
variable [Lo.St]
def CM{b:dO}{w:World}{pv:Value}(hs:b.small)(h:en b w pv):(∃A c,pv=.tuple #[.slice A (F0 b).1.length c,.bool (F0 b).2.1,.bool (F0 b).2.2.1,.int .i64 (F0 b).2.2.2]∧xJ w w.heap.size A (F0 b).1)∧(F0 b).1.length<=16:=by
 unfold F0;rcases h with⟨hc,A,cap,st,eO,found,rfl,iq,hlen,hr⟩|⟨hc,rfl⟩
 .rw[if_neg (by rw[hc];simp)];have qT:=(lM hs hc).n8;obtain⟨e1,e2,e3⟩:=lq.one iq (mL (ss:=fA b (-1)) (n:=b.steps.length) (by omega));rw[<-e1, <-e2, <-e3];exact⟨⟨A,cap,rfl,hr⟩,hlen⟩
 .rw[if_pos hc];exact⟨⟨none,0,rfl, λh=>by simp at h⟩,by simp⟩
end Go.Proofs
end
