/- Part 2. -/
import Derived.Conc.MuSpec
import Derived.Test.YtmhmpoeoapkbaaaGreatH01
set_option maxRecDepth 100000
set_option maxHeartbeats 0
set_option linter.all false
namespace Par
open Go
section
variable [Sh]
section
variable {P:Program} {F:Fit} {f:Nat->Nat} {α β γ δ:Type}
def Qf:Operand->Bool
 | .const (.pointer none)| .const .nilIface=>true
 |_=>false
def Qg(P:Program)(t:TypeId)(x y:Operand):Bool:=
 Wo P 8 t&&!P.eqGuardType P.depth t||
 (Qf x||Qf y)&&match P.underlying t with
   |some (.pointer _)|some (.interface _)=>true
   |_=>false
def Qh(P:Program)(op:BinOp)(t:TypeId)(x y:Operand):Bool:=
 match op with
 | .eql| .neq=>Qg P t x y
 |_=>match P.underlying t with
  |some .unsafePointer=>false
  |_=>true
theorem zu(d:Nat)(t:TypeId):dF P F f Eq (Op.eqGuardIn (d+1) t .nilIface .nilIface) (Op.eqGuardIn (d+1) t .nilIface .nilIface):=by
 unfold Op.eqGuardIn;refine(dQ t).dL λu=>?_
 cases u<;>exact .ret rfl
theorem wN(d:Nat){t:TypeId}{ms:Array (String×TypeId)}(hu:P.underlying t=some (.interface ms))(a b:Array Value):
 dF P F f Eq (Op.eqGuardIn (d+1) t (.agg a) (.agg b)) (Op.eqGuardIn (d+1) t (.agg (a.map (rv f))) (.agg (b.map (rv f)))):=by
 unfold Op.eqGuardIn;refine(eU t).bind ?_
 rintro u _⟨rfl,hu'⟩;rw[hu]at hu';cases hu';exact .ret rfl
theorem JY{op:BinOp}{t:TypeId}{x y:Operand}(ho:Qh P op t x y=true)(a b:Value):dF P F f Eq (eqGuard op t x y a b) (eqGuard op t x y (rv f a) (rv f b)):=by
 have main:Qg P t x y=true->dF P F f Eq (eqGuard .eql t x y a b) (eqGuard .eql t x y (rv f a) (rv f b)):=by
  intro he;unfold eqGuard;simp only[Bool.not_true,bC,if_false];cases a with
  |nilIface=>
   cases b with
   |nilIface=>
    simp only[jh]
    have fin:∀c:Bool,dF P F f Eq (if c=true then Pure.pure ()else(Op.eqGuardIn Op.maxDepth t .nilIface .nilIface>>= λr=>if r=true then unsupported (.noEntry "binop/eql: two nil values of an interface type with methods, neither of them the literal nil")else Pure.pure ()))
     (if c=true then Pure.pure ()else(Op.eqGuardIn Op.maxDepth t .nilIface .nilIface>>= λr=>if r=true then unsupported (.noEntry "binop/eql: two nil values of an interface type with methods, neither of them the literal nil")else Pure.pure ())):=by
     intro c;cases c
     .refine(zu 9999 t).dL λr=>?_
      split
      .exact .bad trivial
      .exact .ret rfl
     .exact .ret rfl
    exact fin _
   |_=>exact .ret rfl
  |agg aS=>
   cases b with
   |agg bs=>
    simp only[nX];refine .rq ?_ (λQ hQ=>by simp only[hQ.eqGuardType])
    refine .rq ?_ (λQ hQ=>by simp only[hQ.depth])
    by_cases hg:P.eqGuardType P.depth t=true
    .simp only[hg,Bool.not_true,bC,if_false];unfold Qg at he;simp only[hg,Bool.not_true,Bool.and_false,Bool.false_or,bB]at he;cases hu:P.underlying t with
     |none=>rw[hu]at he;exact absurd he.2 (by simp)
     |some u=>
      rw[hu]at he;cases u with
      |interface ms=>
       refine(wN 9999 hu aS bs).dL λr=>?_
       split
       .exact .bad trivial
       .exact .ret rfl
      |pointer e=>
       exfalso
       have:∀d,P.eqGuardType d t=true->d=0:=by
        intro d hd;cases d with
        |zero=>rfl
        |succ d=>unfold Program.eqGuardType at hd;rw[hu]at hd;cases hd
       have h0:=this _ hg;have:P.depth≠0:=by unfold Program.depth;omega
       exact this h0
      |_=>exact absurd he.2 (by simp)
    .simp only[hg,Bool.not_false,if_true];exact .ret rfl
   |_=>exact .ret rfl
  |_=>cases b<;>exact .ret rfl
 cases op<;>first|exact .ret rfl|exact main ho
theorem xR{t:TypeId}{u:TypeDesc}(hu:P.underlying t=some u)(hk:(∃e,u=.pointer e)∨∃ms,u=.interface ms){a b:Value}(hn:a=.pointer none∨a=.nilIface∨b=.pointer none∨b=.nilIface):
 dF P F f Eq (Op.equal t a b) (Op.equal t (rv f a) (rv f b)):=by
 unfold Op.equal;show dF P F f Eq (Op.equalIn (9999+1) t a b) (Op.equalIn (9999+1) t (rv f a) (rv f b));unfold Op.equalIn;refine(eU t).bind ?_
 rintro u _⟨rfl,hu'⟩;rw[hu]at hu';cases hu';rcases hk with⟨e,rfl⟩|⟨ms,rfl⟩
 .rcases hn with rfl|rfl|rfl|rfl
  .cases b with
   |pointer b=>simp only[dX];exact .ret (by simp)
   |_=>exact .bad trivial
  .cases b<;>exact .bad trivial
  .cases a with
   |pointer a=>cases a<;>(simp only[dX];exact .ret (by simp))
   |_=>exact .bad trivial
  .cases a with
   |pointer a=>cases a<;>exact .bad trivial
   |_=>exact .bad trivial
 .rcases hn with rfl|rfl|rfl|rfl
  .cases b<;>exact .bad trivial
  .cases b<;>first|exact .bad trivial|(simp only[jh,oP];exact .ret rfl)
  .cases a<;>exact .bad trivial
  .cases a<;>first|exact .bad trivial|(simp only[jh,oP];exact .ret rfl)
theorem vZ(op:BinOp)(t:TypeId)(k k':IntKind)(a b:Int):dF P F f (VR F f) (binOp op t (.int k a) (.int k' b)) (binOp op t (.int k a) (.int k' b)):=by
 cases op<;>simp only[binOp]<;>first
  |exact Qc ..
  |(split
    .exact .bad trivial
    .first|exact Af .. |exact NN .. |exact BS .. |exact NP ..)
def arith:BinOp->Bool
 | .eql| .neq=>false
 |_=>true
theorem Ca(h:Rn P f)(op:BinOp)(ho:arith op=true)(t:TypeId)(k:IntKind)(n:Int)(p:Option Addr)(hp:Ua F p=true):
 dF P F f (VR F f) (binOp op t (.int k n) (.pointer p)) (binOp op t (.int k n) (.pointer (p.map (ra f)))):=by
 have hv:VR F f (.pointer p) (.pointer (p.map (ra f))):=⟨by simp,by simpa using hp⟩;have hi:VR F f (.int k n) (.int k n):=VR.int;cases p with
 |none=>cases op<;>first|(cases ho;done)|exact .bad trivial|exact jL h t hv hi
 |some a=>
  cases op<;>first
   |(cases ho;done)
   |exact .bad trivial
   |exact jL h t hv hi
   |(refine(jw a hp).bind ?_;rintro⟨x,l⟩⟨x',l'⟩⟨h1,rfl⟩;exact BU h k h1 _)
theorem Cc(h:Rn P f){op:BinOp}(ho:arith op=true)(t:TypeId)(k:IntKind)(n:Int)(p:Option Addr)(hp:Ua F p=true):
 dF P F f (VR F f) (binOp op t (.pointer p) (.int k n)) (binOp op t (.pointer (p.map (ra f))) (.int k n)):=by
 have hv:VR F f (.pointer p) (.pointer (p.map (ra f))):=⟨by simp,by simpa using hp⟩;have hi:VR F f (.int k n) (.int k n):=VR.int
 have hadd:dF P F f (VR F f) (binOp .add t (.pointer p) (.int k n)) (binOp .add t (.pointer (p.map (ra f))) (.int k n)):=by
  simp only[binOp];refine(dQ t).dL λd=>?_
  split
  .exact A7 h t hv hi
  .exact jL h t hv hi
 cases p with
 |none=>cases op<;>first|(cases ho;done)|exact hadd|exact .bad trivial|exact jL h t hv VR.int
 |some a=>
  cases op<;>first
   |(cases ho;done)
   |exact hadd
   |exact .bad trivial
   |exact jL h t hv VR.int
   |(refine(jw a hp).bind ?_;rintro⟨x,l⟩⟨x',l'⟩⟨h1,rfl⟩;exact BU h k h1 _)
theorem Ce(h:Rn P f){op:BinOp}(ho:arith op=true)(t:TypeId)(p q:Option Addr)(hp:Ua F p=true)(hq:Ua F q=true):
 dF P F f (VR F f) (binOp op t (.pointer p) (.pointer q)) (binOp op t (.pointer (p.map (ra f))) (.pointer (q.map (ra f)))):=by
 cases p with
 |none=>cases q<;>cases op<;>first|(cases ho;done)|exact .bad trivial
 |some a=>
  cases q with
  |none=>cases op<;>first|(cases ho;done)|exact .bad trivial
  |some b=>
   cases op<;>first
    |(cases ho;done)
    |exact .bad trivial
    |(refine(jw a hp).bind ?_
      rintro⟨x,l⟩⟨x',l'⟩⟨h1,rfl⟩;refine(jw b hq).bind ?_
      rintro⟨y,m⟩⟨y',m'⟩⟨h2,rfl⟩
      first|exact JS h _ h1 h2|exact JU h _ h1 h2)
theorem FE(h:Rn P f){op:BinOp}(ho:arith op=true)(t:TypeId){a a' b b':Value}(ha:VR F f a a')(hb:VR F f b b'):dF P F f (VR F f) (binOp op t a b) (binOp op t a' b'):=by
 obtain⟨rfl,hs⟩:=ha;obtain⟨rfl,hs'⟩:=hb;cases a with
 |int k n=>
  cases b with
  |int k' m=>simp only[iC];exact vZ ..
  |pointer p=>simp only[iC,dX];exact Ca h op ho t k n p (by simpa using hs')
  |_=>cases op<;>first|(cases ho;done)|exact .bad trivial
 |string s=>
  cases b with
  |string s'=>simp only[gF];cases op<;>first|(cases ho;done)|(simp only[binOp];exact nN ..)
  |pointer p=>cases p<;>cases op<;>first|(cases ho;done)|exact .bad trivial
  |_=>cases op<;>first|(cases ho;done)|exact .bad trivial
 |pointer p=>
  cases b with
  |int k n=>simp only[iC,dX];exact Cc h ho t k n p (by simpa using hs)
  |pointer q=>simp only[dX];exact Ce h ho t p q (by simpa using hs) (by simpa using hs')
  |_=>cases p<;>cases op<;>first|(cases ho;done)|exact .bad trivial
 |float _ _=>simp at hs
 |complex _ _ _=>simp at hs
 |_=>
  cases b with
  |pointer p=>cases p<;>cases op<;>first|(cases ho;done)|exact .bad trivial
  |_=>cases op<;>first|(cases ho;done)|exact .bad trivial
end
end
section
variable [Sh]
section
variable {P:Program} {F:Fit} {f:Nat->Nat} {α β γ δ:Type}
theorem JZ{op:BinOp}(ho:arith op=false)(t:TypeId){a b:Value}(ha:vs F a=true)(hs:dF P F f Eq (Op.equal t a b) (Op.equal t (rv f a) (rv f b))):
 dF P F f (VR F f) (binOp op t a b) (binOp op t (rv f a) (rv f b)):=by
 have e:dF P F f (VR F f) (do pure (.bool (<-Op.equal t a b))) (do pure (.bool (<-Op.equal t (rv f a) (rv f b)))):=hs.dL λ_=>.ret VR.bool
 have n:dF P F f (VR F f) (do pure (.bool (!(<-Op.equal t a b)))) (do pure (.bool (!(<-Op.equal t (rv f a) (rv f b))))):=hs.dL λ_=>.ret VR.bool
 have ii:= λk x k' y=>vZ (P:=P) (F:=F) (f:=f) op t k k' x y
 cases op<;>first|(cases ho;done)|skip
 all_goals
  cases a with
  |int k x=>
   cases b with
   |int k' y=>simp only[iC];exact ii k x k' y
   |_=>first|exact e|exact n
  |string x=>
   cases b with
   |string y=>simp only[gF];first|exact nN .eql x y|exact nN .neq x y
   |_=>first|exact e|exact n
  |float _ _=>simp at ha
  |complex _ _ _=>simp at ha
  |_=>first|exact e|exact n
theorem Qi(h:Rn P f){op:BinOp}{t:TypeId}{x y:Operand}(ho:Qh P op t x y=true){a b a' b':Value}(ha:VR F f a a')(hb:VR F f b b')
 (hx:∀v,x=.const v->a=v) (hy:∀v,y=.const v->b=v):dF P F f (VR F f) (do eqGuard op t x y a b;binOp op t a b) (do eqGuard op t x y a' b';binOp op t a' b'):=by
 obtain⟨rfl,hsa⟩:=ha;obtain⟨rfl,hsb⟩:=hb;refine(JY ho a b).dL λ_=>?_
 by_cases hop:arith op=true
 .exact FE h hop t ⟨rfl,hsa⟩ ⟨rfl,hsb⟩
 .have hop':arith op=false:=by simpa using hop
  have he:Qg P t x y=true:=by cases op<;>first|exact ho|(cases hop';done)
  refine JZ hop' t hsa ?_
  unfold Qg at he;rw[Bool.or_eq_true]at he;rcases he with he|he
  .rw[bB]at he;exact BZ h 8 _ t he.1 ⟨rfl,hsa⟩ ⟨rfl,hsb⟩
  .rw[bB,Bool.or_eq_true]at he
   have hn:a=.pointer none∨a=.nilIface∨b=.pointer none∨b=.nilIface:=by
    rcases he.1 with h1|h1
    .cases x with
     |const v=>
      have :=hx v rfl;subst this;cases a with
      |pointer p=>cases p<;>first|exact .inl rfl|cases h1
      |nilIface=>exact .inr (.inl rfl)
      |_=>cases h1
     |_=>cases h1
    .cases y with
     |const v=>
      have :=hy v rfl;subst this;cases b with
      |pointer p=>cases p<;>first|exact .inr (.inr (.inl rfl))|cases h1
      |nilIface=>exact .inr (.inr (.inr rfl))
      |_=>cases h1
     |_=>cases h1
   cases hu:P.underlying t with
   |none=>rw[hu]at he;exact absurd he.2 (by simp)
   |some u=>
    rw[hu]at he;cases u with
    |pointer e=>exact xR hu (.inl ⟨e,rfl⟩) hn
    |interface ms=>exact xR hu (.inr ⟨ms,rfl⟩) hn
    |_=>exact absurd he.2 (by simp)
def J2(P:Program)(src dst:TypeId):Bool:=
 match P.underlying src,P.underlying dst with
 |some (.int _),some (.int _)=>true
 |some .string,some .string=>true
 |some .string,some (.slice e)=>match P.underlying e with |some (.int .u8)=>true|_=>false
 |_,_=>false
theorem zw(e:TypeId)(s:ByteArray):dF P F f (VR F f) (Conv.stringToBytes e s) (Conv.stringToBytes e s):=by
 unfold Conv.stringToBytes;refine(lu _).dL λcap=>?_
 have hc:∀(n:Nat),jf F f (s.data.map (λb=>Value.int .u8 b.toNat)++Array.replicate n (.int .u8 0)) (s.data.map (λb=>Value.int .u8 b.toNat)++Array.replicate n (.int .u8 0)):=by
  intro n;refine⟨?_, λx hx=>?_⟩
  .rw[Array.map_append,Array.map_map,Array.map_replicate,iC];rw[show(rv f ∘ λb:UInt8=>Value.int .u8 b.toNat)= λb:UInt8=>Value.int .u8 b.toNat from funext λb=>by simp]
  .rcases Array.mem_append.1 hx with hx|hx
   .obtain⟨b,_,rfl⟩:=Array.mem_map.1 hx;simp
   .rw[(Array.mem_replicate.1 hx).2];simp
 have h1:=hc (cap-s.size)
 have x:=dF.mQ (P:=P) (F:=F) (f:=f) (R:=VR F f) (e:=e)
  (k0:= λr z=>Sem.bind (match z with |some (_,n)=>freeze { block:=r,off:=n } 1|none=>Pure.pure ()) λ_=>Pure.pure (Value.slice (some ⟨r,0,none⟩) s.size cap))
  (k0':= λr z=>Sem.bind (match z with |some (_,n)=>freeze { block:=r,off:=n } 1|none=>Pure.pure ()) λ_=>Pure.pure (Value.slice (some ⟨r,0,none⟩) s.size cap))
  (k:= λr=>Pure.pure (Value.slice (some ⟨r,0,none⟩) s.size cap)) (k':= λr=>Pure.pure (Value.slice (some ⟨r,0,none⟩) s.size cap)) h1.2 (λr=>rfl) (λr=>rfl) (λr hr hl=>.pure ⟨by simp[BJ hl],by rw[gY];exact qH (by simpa using hr)⟩)
 rw[<-h1.1]at x
 have hm:∀C:Array Value,(newRow e C>>= λa=>markStringish a>>= λ_=>Pure.pure (Value.slice (some a) s.size cap))=Sem.new (.cells C e (0,0)) (λr=>Sem.shape r λz=>
  Sem.bind (match z with |some (_,n)=>freeze { block:=r,off:=n } 1|none=>Pure.pure ()) λ_=>Pure.pure (Value.slice (some ⟨r,0,none⟩) s.size cap)):=by
  intro C;show Sem.new _ _=Sem.new _ _;congr 1;funext r;show Sem.shape _ _=Sem.shape _ _;congr 1;funext z;cases z<;>rfl
 dsimp only;rw[hm];exact x
theorem J3{src dst:TypeId}(ho:J2 P src dst=true){v v':Value}(hv:VR F f v v'):dF P F f (VR F f) (convert src dst v) (convert src dst v'):=by
 obtain⟨rfl,hs⟩:=hv;unfold convert;refine(eU src).bind ?_
 rintro u _⟨rfl,hu⟩;refine(eU dst).bind ?_
 rintro d _⟨rfl,hd⟩;unfold J2 at ho;rw[hu,hd]at ho;cases u with
 |int k=>
  cases d with
  |int k'=>
   cases v with
   |int k2 n=>simp only[iC];exact .ret VR.int
   |pointer a=>cases a<;>exact .bad trivial
   |float _ _=>simp at hs
   |complex _ _ _=>simp at hs
   |_=>exact .bad trivial
  |_=>cases ho
 |string=>
  cases d with
  |string=>
   cases v with
   |int k2 n=>simp only[iC];exact .ret VR.str
   |string s=>simp only[gF];exact .ret VR.str
   |float _ _=>simp at hs
   |complex _ _ _=>simp at hs
   |_=>exact .bad trivial
  |slice e=>
   cases v with
   |string s=>
    simp only[gF];refine(eU e).bind ?_
    rintro w _⟨rfl,hw⟩;dsimp only at ho;rw[hw]at ho;cases w with
    |int k=>cases k<;>first|(cases ho;done)|exact zw e s
    |_=>cases ho
   |float _ _=>simp at hs
   |complex _ _ _=>simp at hs
   |slice a _ _=>cases a<;>exact .bad trivial
   |pointer a=>cases a<;>exact .bad trivial
   |_=>exact .bad trivial
  |_=>cases ho
 |_=>cases ho
theorem Hr(kd:TypeDesc)(a b:Value):Instr.sameNow kd (rv f a) (rv f b)=Instr.sameNow kd a b:=by
 cases a with
 |int k n=>cases b<;>simp only[iC,jZ,gF,qX,mP,dX,fD,nW,su,oh,kV,jh,oP,nX,qY]<;>cases kd<;>rfl
 |bool x=>cases b<;>simp only[iC,jZ,gF,qX,mP,dX,fD,nW,su,oh,kV,jh,oP,nX,qY]<;>cases kd<;>rfl
 |string x=>cases b<;>simp only[iC,jZ,gF,qX,mP,dX,fD,nW,su,oh,kV,jh,oP,nX,qY]<;>cases kd<;>rfl
 |_=>simp only[qX,mP,dX,fD,nW,su,oh,kV,jh,oP,nX,qY]<;>cases kd<;>rfl
def zx(F:Fit)(f:Nat->Nat)(k:Value)(es:List MapEntry)(n:Nat)(x y:Option (Nat×Value)):Prop:=(x=none∧y=none)∨∃i v,x=some (n+i,v)∧y=some (n+i,rv f v)∧vs F v=true∧∃e,es[i]?=some e∧SB f e.key k
theorem zx.later{k:Value}{e:MapEntry}{es:List MapEntry}{n:Nat}{x y:Option (Nat×Value)}(h:zx F f k es (n+1) x y):zx F f k (e::es) n x y:=by
 rcases h with h|⟨i,v,h1,h2,h3,e',h4,h5⟩
 .exact .inl h
 .exact .inr ⟨i+1,v,by rw[h1];congr 2;omega,by rw[h2];congr 2;omega,h3,e',h4,h5⟩
theorem J4{kd:TypeDesc}{a b:Value}(h:Instr.sameNow kd a b=some true):SB f b a:=by
 cases a<;>cases b<;>first|(simp[SB,Instr.sameBits];done)|(cases kd<;>cases h)
theorem Ak(kd:TypeDesc)(k:Value):∀(es:List MapEntry)(i:Nat),(∀e∈es,vs F e.val=true)->
 (Instr.findNow kd k es i=none∧Instr.findNow kd (rv f k) (es.map (re f)) i=none)∨∃x y,Instr.findNow kd k es i=some x∧Instr.findNow kd (rv f k) (es.map (re f)) i=some y∧zx F f k es i x y
 | [],i,_=>.inr ⟨none,none,rfl,rfl,.inl ⟨rfl,rfl⟩⟩
 |e::es,i,h=>by
  simp only[aC,Instr.findNow,re,Hr];cases hn:Instr.sameNow kd k e.key with
  |none=>exact .inl ⟨rfl,rfl⟩
  |some b=>
   cases b with
   |true=>exact .inr ⟨_,_,rfl,rfl,.inr ⟨0,_,rfl,rfl,h e (aP ..),e,rfl,J4 hn⟩⟩
   |false=>exact(Ak kd k es (i+1) λe he=>h e (aQ _ he)).imp id λ⟨x,y,h1,h2,h3⟩=>⟨x,y,h1,h2,h3.later⟩
def J5(P:Program)(t:TypeId):Bool:=match P.underlying t with |some .bool|some (.int _)|some .string=>true|_=>false
theorem Ht(h:Rn P f){kt:TypeId}(ht:J5 P kt=true)(d:Nat){x x' y y':Value}(hx:VR F f x x')(hy:VR F f y y'):dF P F f (λb b'=>b=b'∧(b=true->SB f y x)) (Op.equalIn (d+1) kt x y) (Op.equalIn (d+1) kt x' y'):=by
 unfold J5 at ht;cases hu:P.underlying kt with
 |none=>rw[hu]at ht;cases ht
 |some u=>
  rw[hu]at ht;cases u<;>first|(cases ht;done)|exact Aj d hu hx hy|exact vY d hu hx hy|exact BX h d hu hx hy
theorem Cf{kt:TypeId}(ht:J5 P kt=true):Wo P 8 kt=true:=by
 unfold J5 at ht;unfold Wo;cases hu:P.underlying kt with
 |none=>rw[hu]at ht;cases ht
 |some u=>
  rw[hu]at ht;cases u<;>first|(cases ht;done)|rfl
theorem wh(h:Rn P f){kt:TypeId}(ht:J5 P kt=true){k:Value}(hk:vs F k=true):∀(es:List MapEntry)(i:Nat),(∀e∈es,vs F e.key=true∧vs F e.val=true)->
 dF P F f (zx F f k es i) (Instr.findAsking kt k es i) (Instr.findAsking kt (rv f k) (es.map (re f)) i)
 | [],i,_=>.ret (.inl ⟨rfl,rfl⟩)
 |e::es,i,he=>by
  simp only[aC];unfold Instr.findAsking;refine(Ht h ht 9999 ⟨rfl,hk⟩ ⟨rfl,(he e (aP ..)).1⟩).bind ?_
  rintro b _⟨rfl,hb⟩;cases b with
  |true=>exact .ret (.inr ⟨0,_,rfl,rfl,(he e (aP ..)).2,e,rfl,hb rfl⟩)
  |false=>exact(wh h ht hk es (i+1) λe' he'=>he e' (aQ _ he')).mono λ_ _ h=>h.later
theorem wO(h:Rn P f){kt:TypeId}(ht:J5 P kt=true){k:Value}(hk:vs F k=true)(es:List MapEntry)(he:∀e∈es,vs F e.key=true∧vs F e.val=true):
 dF P F f (zx F f k es 0) (Instr.findKey kt k es) (Instr.findKey kt (rv f k) (es.map (re f))):=by
 unfold Instr.findKey;refine(dQ kt).dL λd=>?_
 rcases Ak (F:=F) (f:=f) d k es 0 (λe h=>(he e h).2)with⟨h1,h2⟩|⟨x,y,h1,h2,h3⟩
 .rw[h1,h2];exact wh h ht hk es 0 he
 .rw[h1,h2];exact .ret h3
theorem qj(empty:Bool):∀(n d:Nat)(t:TypeId),Wo P n t=true->∀{v:Value},vs F v=true->dF P F f Eq (Instr.checkKey empty d t v) (Instr.checkKey empty d t (rv f v))
 |0,_,_,h0,_,_=>by cases h0
 |n+1,0,_,_,_,_=>.bad trivial
 |n+1,d+1,t,ht,v,hv=>by
  unfold Instr.checkKey;refine(eU t).bind ?_
  rintro u _⟨rfl,hu⟩;unfold Wo at ht;rw[hu]at ht;cases u with
  |struct fs=>
   rw[bB]at ht;cases v with
   |agg cs=>
    simp only[nX];refine dF.dL ?_ λr=>.ret rfl
    rw[<-Array.forIn_toList, <-Array.forIn_toList];refine BV fs.toList _ λfl hfl s=>?_
    split
    .refine(xP fl.type ⟨rfl,lV.1 hv⟩ _).bind ?_
     rintro p _⟨rfl,hp⟩;exact(qj empty n d fl.type (aU.1 ht.2 fl (by simpa using hfl)) hp).dL λ_=>.ret rfl
    .exact .ret rfl
   |_=>exact .bad trivial
  |bool=>exact .ret rfl
  |int k=>exact .ret rfl
  |string=>exact .ret rfl
  |slice e=>exact .ret rfl
  |map k e=>exact .ret rfl
  |func a b c=>exact .ret rfl
  |_=>cases ht
def xS(P:Program)(t:TypeId):Bool:=
 match P.underlying t with
 |some (.map k _)=>J5 P k
 |_=>false
theorem J6(t:TypeId){r r':Option Value}(hr:PL F f r r'):dF P F f (VR F f) (Instr.makeMap t r) (Instr.makeMap t r'):=by
 unfold Instr.makeMap
 have fin:dF P F f (VR F f) (do pure (.map (some (<-newObj (.map #[] 0))))) (do pure (.map (some (<-newObj (.map #[] 0))))):=by
  refine dF.bind (by have :=oI (P:=P) (F:=F) (f:=f) (o:=.map #[] 0) (by intro e he;simp at he);simpa[ro]using this) ?_
  rintro r _⟨rfl,hr,_⟩;exact .ret ⟨by simp,by simpa using hr⟩
 rcases hr with⟨rfl,rfl⟩|⟨v,rfl,rfl,hv⟩
 .exact fin
 .refine(dQ t).dL λd=>?_
  cases d with
  |map k e=>exact(rz ⟨rfl,hv⟩).dL λ_=>fin
  |_=>exact .bad trivial
theorem J7{es:Array MapEntry}(h:∀e∈es,vs F e.key=true∧vs F e.val=true):∀e∈es.toList,vs F e.key=true∧vs F e.val=true:= λe he=>h e (by simpa using he)
theorem NU(h:Rn P f){t:TypeId}(ho:xS P t=true){m m' k k':Value}(hm:VR F f m m')(hk:VR F f k k')(ok:Bool):dF P F f (VR F f) (Instr.lookup t m k ok) (Instr.lookup t m' k' ok):=by
 obtain⟨rfl,hms⟩:=hm;obtain⟨rfl,hks⟩:=hk;unfold Instr.lookup;refine(eU t).bind ?_
 rintro u _⟨rfl,hu⟩;unfold xS at ho;rw[hu]at ho;cases u with
 |map kt e=>
  dsimp only at ho;dsimp -zeta only
  extract_lets j1 j2 j2'
  have hj1:∀{v v':Value}(b:Bool),VR F f v v'->dF P F f (VR F f) (j1 (v,b)) (j1 (v',b)):=by
   intro v v' b hv;dsimp only[j1];cases ok
   .exact .ret hv
   .exact .ret (VR.tuple ((jf.nil.push hv).push VR.bool))
  have hj2:∀es:Array MapEntry,(∀e∈es,vs F e.key=true∧vs F e.val=true)->dF P F f (VR F f) (j2 es) (j2' (es.map (re f))):=by
   intro es hes;dsimp only[j2,j2'];rw[show(es.map (re f)).isEmpty=es.isEmpty from by simp[Array.isEmpty],Array.toList_map];refine(qj es.isEmpty 8 _ kt (Cf ho) hks).dL λ_=>?_
   refine(wO h ho hks es.toList (J7 hes)).bind ?_
   rintro x y(⟨rfl,rfl⟩|⟨i,v,rfl,rfl,hv,e0,he0,hsb⟩)
   .refine(BK h.gD e).bind ?_
    intro z z' hz;exact hj1 false hz
   .exact hj1 true ⟨rfl,hv⟩
  cases m with
  |map r=>
   rw[nW];cases r with
   |none=>
    have :=hj2 #[] (by intro e he;simp at he);rw[Array.map_empty]at this;exact this
   |some r=>
    refine(jc r (by simpa using hms)).bind ?_
    rintro o _⟨rfl,h1,h2⟩;cases o with
    |map es clock=>exact hj2 es h1
    |_=>exact .bad trivial
  |_=>exact .bad trivial
 |_=>cases ho
theorem tO{a b:Value}(hab:SB f a b)(ha:vs F a=true)(hb:vs F b=true):dF P F f (VR F f) (Instr.keyThatStays a b) (Instr.keyThatStays (rv f a) (rv f b)):=by
 unfold Instr.keyThatStays;rw[show Instr.sameBits 10000 (rv f a) (rv f b)=_ from hab];split
 .exact .ret ⟨rfl,hb⟩
 .refine(lu _).dL λn=>?_
  split
  .exact .ret ⟨rfl,hb⟩
  .exact .ret ⟨rfl,ha⟩
theorem jd(es:Array MapEntry)(i:Nat)(k:Value):(((es.map (re f))[i]?).map (·.key)).getD (rv f k)=rv f (((es[i]?).map (·.key)).getD k):=by
 rw[aG];cases es[i]?<;>rfl
theorem L6{es:Array MapEntry}(hes:∀e∈es,vs F e.key=true∧vs F e.val=true)(i:Nat){k:Value}(hk:vs F k=true):vs F (((es[i]?).map (·.key)).getD k)=true:=by
 cases h:es[i]? with
 |none=>exact hk
 |some e=>exact(hes e (aZ h)).1
theorem wP{g g':MapEntry->MapEntry}(hg:∀e,re f (g e)=g' (re f e))(es:Array MapEntry)(i:Nat):(es.modify i g).map (re f)=(es.map (re f)).modify i g':=by
 apply Array.ext
 .simp
 .intro j h1 h2;simp only[Array.getElem_map,Array.getElem_modify];split
  .rw[hg]
  .rfl
theorem zy{g:MapEntry->MapEntry}{es:Array MapEntry}(hes:∀e∈es,vs F e.key=true∧vs F e.val=true)(hg:∀e,vs F e.key=true∧vs F e.val=true->vs F (g e).key=true∧vs F (g e).val=true)(i:Nat):
 ∀e∈es.modify i g,vs F e.key=true∧vs F e.val=true:=by
 intro e he;obtain⟨j,hj⟩:=Array.getElem?_of_mem he;rw[bz]at hj;split at hj
 .obtain⟨x,hx,rfl⟩:=Option.map_eq_some_iff.1 hj;exact hg x (hes x (aZ hx))
 .exact hes e (aZ hj)
theorem L8{es:Array MapEntry}(hes:∀e∈es,vs F e.key=true∧vs F e.val=true){x:MapEntry}(hx:vs F x.key=true∧vs F x.val=true):∀e∈es.push x,vs F e.key=true∧vs F e.val=true:=
 λe he=>(Array.mem_push.1 he).elim (hes e) λh=>h ▸ hx
theorem rC(r:Nat)(hA:F.A r=true){es es':Array MapEntry}(c:Nat)(hes:∀e∈es,vs F e.key=true∧vs F e.val=true)(e:es'=es.map (re f)):
 dF P F f Eq (setObj r (.map es c)) (setObj (f r) (.map es' c)):=by subst e;exact mU r hA (o:=.map es c) hes rfl
theorem xU(h:Rn P f){t:TypeId}(ho:xS P t=true){m m' k k' v v':Value}(hm:VR F f m m')(hk:VR F f k k')(hv:VR F f v v'):dF P F f Eq (Instr.mapUpdate t m k v) (Instr.mapUpdate t m' k' v'):=by
 obtain⟨rfl,hms⟩:=hm;obtain⟨rfl,hks⟩:=hk;obtain⟨rfl,hvs⟩:=hv;unfold Instr.mapUpdate;refine(eU t).bind ?_
 rintro u _⟨rfl,hu⟩;unfold xS at ho;rw[hu]at ho;cases u with
 |map kt e=>
  dsimp only at ho⊢;cases m with
  |map r=>
   rw[nW];cases r with
   |none=>exact eZ _ _
   |some r=>
    have hA:F.A r=true:=by simpa using hms
    refine(jc r hA).bind ?_
    rintro o _⟨rfl,h1,h2⟩;cases o with
    |map es clock=>
     dsimp only[ro];rw[Array.toList_map];refine(qj false 8 _ kt (Cf ho) hks).dL λ_=>?_
     refine(wO h ho hks es.toList (J7 h1)).bind ?_
     rintro x y(⟨rfl,rfl⟩|⟨i,v0,rfl,rfl,hv0,e0,he0,hsb⟩)
     .exact rC r hA _ (L8 h1 ⟨hks,hvs⟩) (by rw[Array.map_push];rfl)
     .simp only[Nat.zero_add];rw[jd];refine(tO (show SB f (((es[i]?).map (·.key)).getD k) k by rw[show es[i]?=some e0 by simpa using he0];exact hsb) (L6 h1 i hks) hks).bind ?_
      rintro k2 _⟨rfl,hk2⟩;exact rC r hA _ (zy (g:= λe=>{ key:=k2,val:=v,born:=e.born }) h1 (λe _=>⟨hk2,hvs⟩) i) (wP (g:= λe=>{ key:=k2,val:=v,born:=e.born }) (g':= λe=>{ key:=rv f k2,val:=rv f v,born:=e.born }) (λe=>rfl) es i).symm
    |_=>exact .bad trivial
  |_=>exact .bad trivial
 |_=>cases ho
theorem Hu(h:Rn P f){t:TypeId}(ho:xS P t=true){m m' k k':Value}(hm:VR F f m m')(hk:VR F f k k'):dF P F f (VR F f) (Instr.mapEntry t m k) (Instr.mapEntry t m' k'):=by
 obtain⟨rfl,hms⟩:=hm;obtain⟨rfl,hks⟩:=hk;unfold Instr.mapEntry;refine(eU t).bind ?_
 rintro u _⟨rfl,hu⟩;unfold xS at ho;rw[hu]at ho;cases u with
 |map kt e=>
  dsimp only at ho⊢;cases m with
  |map r=>
   rw[nW];cases r with
   |none=>exact eZ _ _
   |some r=>
    have hA:F.A r=true:=by simpa using hms
    refine(jc r hA).bind ?_
    rintro o _⟨rfl,h1,h2⟩;cases o with
    |map es clock=>
     dsimp only[ro];rw[Array.toList_map];refine(qj false 8 _ kt (Cf ho) hks).dL λ_=>?_
     refine(wO h ho hks es.toList (J7 h1)).bind ?_
     rintro x y(⟨rfl,rfl⟩|⟨i,v,rfl,rfl,hv,e0,he0,hsb⟩)
     .refine(BK h.gD e).bind ?_
      rintro z _⟨rfl,hz⟩;refine(rC r hA _ (L8 h1 ⟨hks,hz⟩) (by rw[Array.map_push];rfl)).dL λ_=>?_
      exact .ret (VR.tuple ((jf.nil.push ⟨rfl,hz⟩).push VR.goInt))
     .simp only[Nat.zero_add];rw[jd];refine(tO (show SB f (((es[i]?).map (·.key)).getD k) k by rw[show es[i]?=some e0 by simpa using he0];exact hsb) (L6 h1 i hks) hks).bind ?_
      rintro k2 _⟨rfl,hk2⟩;refine(rC r hA _ (zy (g:= λe=>{ key:=k2,val:=e.val,born:=e.born }) h1 (λe he=>⟨hk2,he.2⟩) i) (wP (g:= λe=>{ key:=k2,val:=e.val,born:=e.born }) (g':= λe=>{ key:=rv f k2,val:=e.val,born:=e.born }) (λe=>rfl) es i).symm).dL λ_=>?_
      have eb:(((es.map (re f))[i]?).map (λe=>(e.born:Int))).getD 0=((es[i]?).map (λe=>(e.born:Int))).getD 0:=by
       rw[aG];cases es[i]?<;>rfl
      rw[eb];exact .ret (VR.tuple ((jf.nil.push ⟨rfl,hv⟩).push VR.goInt))
    |_=>exact .bad trivial
  |_=>exact .bad trivial
 |_=>cases ho
theorem Ed(t:TypeId){m m' k k' v v':Value}(hm:VR F f m m')(hk:VR F f k k')(hv:VR F f v v'):dF P F f Eq (Instr.entryStore t m k v) (Instr.entryStore t m' k' v'):=by
 obtain⟨rfl,hms⟩:=hm;obtain⟨rfl,hvs⟩:=hv;unfold Instr.entryStore;cases m with
 |map r=>
  rw[nW];cases r with
  |none=>exact .bad trivial
  |some r=>
   have hA:F.A r=true:=by simpa using hms
   refine(jc r hA).bind ?_
   rintro o _⟨rfl,h1,h2⟩;cases o with
   |map es clock=>
    dsimp only[ro];refine(rz hk).dL λborn=>?_
    have e1:(es.map (re f)).findIdx? (λe=>(e.born:Int)==born)=es.findIdx? (λe=>(e.born:Int)==born):=by
     rw[Array.findIdx?_map];rfl
    rw[e1];cases es.findIdx? (λe=>(e.born:Int)==born)with
    |none=>exact .bad trivial
    |some i=>exact rC r hA _ (zy (g:= λe=>{ key:=e.key,val:=v,born:=e.born }) h1 (λe he=>⟨he.1,hvs⟩) i) (wP (g:= λe=>{ key:=e.key,val:=v,born:=e.born }) (g':= λe=>{ key:=e.key,val:=rv f v,born:=e.born }) (λe=>rfl) es i).symm
   |_=>exact .bad trivial
 |_=>exact .bad trivial
end
end
section
variable [Sh]
section
variable {P:Program} {F:Fit} {f:Nat->Nat} {α β γ δ:Type}
theorem Qj(t:TypeId){v v':Value}(hv:VR F f v v'):dF P F f (VR F f) (Instr.range t v) (Instr.range t v'):=by
 obtain⟨rfl,hs⟩:=hv;unfold Instr.range;refine(dQ t).dL λd=>?_
 have fin:∀o:Obj,oS F o->dF P F f (VR F f) (do pure (.pointer (some ⟨<-newObj o,0,none⟩))) (do pure (.pointer (some ⟨<-newObj (ro f o),0,none⟩))):=by
  intro o ho;refine(oI ho).bind ?_
  rintro r _⟨rfl,hr,hl⟩;exact .ret (VR.ptr ⟨(BJ hl).symm,hr⟩)
 cases d with
 |string=>
  cases v with
  |string s=>simp only[gF];exact fin (.stringIter s 0) trivial
  |_=>exact .bad trivial
 |map k e=>
  cases v with
  |map r=>
   rw[nW];cases r with
   |none=>exact fin (.mapIter none 0 #[] 0) rfl
   |some r=>
    have hA:F.A r=true:=by simpa using hs
    refine(jc r hA).bind ?_
    rintro o _⟨rfl,h1,h2⟩;cases o with
    |map es clock=>exact fin (.mapIter (some r) clock #[] clock) hA
    |_=>exact .bad trivial
  |_=>exact .bad trivial
 |_=>cases v<;>exact .bad trivial
theorem wQ(es:Array MapEntry)(p:Nat->Bool):(es.map (re f)).filter (λe=>p e.born)=(es.filter λe=>p e.born).map (re f):=by
 rw[Array.filter_map];rfl
theorem NV(old new:Array MapEntry):((if old.isEmpty then#[none]else#[])++((old++new).map (re f)).map some:Array (Option MapEntry))=((if old.isEmpty then#[none]else#[])++(old++new).map some:Array (Option MapEntry)).map (Option.map (re f)):=by
 split<;>simp[Function.comp_def]
theorem Ut(t:TypeId)(Wm:Bool){v v':Value}(hv:VR F f v v'):dF P F f (VR F f) (Instr.next v Wm t) (Instr.next v' Wm t):=by
 obtain⟨rfl,hs⟩:=hv;unfold Instr.next;have over:dF P F f (VR F f) (Pure.pure (.tuple #[.bool false])) (Pure.pure (.tuple #[.bool false])):=.ret (VR.tuple (jf.nil.push VR.bool));cases v with
 |pointer a=>
  cases a with
  |none=>exact .bad trivial
  |some a=>
   obtain⟨r,off,sp⟩:=a;cases off with
   |succ n=>exact .bad trivial
   |zero=>
    rw[dX];have hA:F.A r=true:=by simpa using hs
    cases hl:Sh.lk r with
    |true=>exact dF.BG hA hl
    |false=>
    simp only[ay,BJ hl];refine(jc r hA).bind ?_
    rintro o _⟨rfl,h1,h2⟩;cases o with
    |stringIter s pos=>
     cases Wm with
     |false=>exact .bad trivial
     |true=>
      dsimp only[ro];split
      .refine(mU r hA (o:=.stringIter s _) trivial rfl).dL λ_=>?_
       exact .ret (VR.tuple (((jf.nil.push VR.bool).push VR.goInt).push VR.int))
      .exact over
    |mapIter m since seen last=>
     cases Wm with
     |true=>cases m<;>exact .bad trivial
     |false=>
      cases m with
      |none=>exact over
      |some m=>
       dsimp only[ro,ay];refine(jc m h1).bind ?_
       rintro o _⟨rfl,h3,_⟩;cases o with
       |map es clock=>
        dsimp only[ro]
        have e1:(!seen.isEmpty&&!(es.map (re f)).isEmpty&&(es.map (re f)).all (·.born≥ last))=(!seen.isEmpty&&!es.isEmpty&&es.all (·.born≥ last)):=by
         rw[Array.all_map,show(es.map (re f)).isEmpty=es.isEmpty from by simp[Array.isEmpty]];rfl
        have e2:(es.map (re f)).filter (λe=>!seen.contains e.born)=(es.filter λe=>!seen.contains e.born).map (re f):=wQ es λb=>!seen.contains b
        rw[e1,e2];split
        .exact .bad trivial
        .generalize hl:es.filter (λe=>!seen.contains e.born)=left;have hlm:∀e∈left,vs F e.key=true∧vs F e.val=true:= λe he=>h3 e (by rw[<-hl]at he;exact(Array.mem_filter.1 he).1)
         have e3:(left.map (re f)).filter (λe=>decide (e.born<since))=(left.filter λe=>decide (e.born<since)).map (re f):=wQ left λb=>decide (b<since)
         have e4:(left.map (re f)).filter (λe=>decide (e.born≥ since))=(left.filter λe=>decide (e.born≥ since)).map (re f):=wQ left λb=>decide (b≥ since)
         rw[e3,e4];generalize ho:left.filter (λe=>decide (e.born<since))=old;generalize hn:left.filter (λe=>decide (e.born≥ since))=new
         have hom:∀e∈old++new,vs F e.key=true∧vs F e.val=true:= λe he=>by
          rcases Array.mem_append.1 he with he|he
          .rw[<-ho]at he;exact hlm e (Array.mem_filter.1 he).1
          .rw[<-hn]at he;exact hlm e (Array.mem_filter.1 he).1
         rw[<-Array.map_append,show(old.map (re f)).isEmpty=old.isEmpty from by simp[Array.isEmpty]]
         have e5:((if old.isEmpty then#[none]else#[])++((old++new).map (re f)).map some:Array (Option MapEntry))=((if old.isEmpty then#[none]else#[])++(old++new).map some:Array (Option MapEntry)).map (Option.map (re f)):=by
          exact NV old new
         rw[e5,Array.size_map];generalize hc:((if old.isEmpty then#[none]else#[])++(old++new).map some:Array (Option MapEntry))=Wp
         have hcm:∀e,some e∈Wp->vs F e.key=true∧vs F e.val=true:= λe he=>by
          rw[<-hc]at he;rcases Array.mem_append.1 he with he|he
          .split at he<;>simp at he
          .obtain⟨x,hx,hxe⟩:=Array.mem_map.1 he;cases hxe;exact hom _ hx
         refine(lu _).dL λn=>?_
         rw[aG];cases hg:Wp[n]? with
         |none=>exact .bad trivial
         |some c=>
          cases c with
          |none=>exact over
          |some e=>
           have he:=hcm e (aZ hg);refine(mU r hA (o:=.mapIter (some m) since (seen.push e.born) clock) h1 rfl).dL λ_=>?_
           exact .ret (VR.tuple (((jf.nil.push VR.bool).push ⟨rfl,he.1⟩).push ⟨rfl,he.2⟩))
       |_=>exact .bad trivial
    |_=>cases Wm<;>exact .bad trivial
 |_=>exact .bad trivial
theorem J8{v v':Value}(hv:VR F f v v')(i:Nat):dF P F f (VR F f) (Instr.extract v i) (Instr.extract v' i):=by
 obtain⟨rfl,hs⟩:=hv;unfold Instr.extract;cases v with
 |tuple vs=>
  rw[qY];have hv:jf F f vs (vs.map (rv f)):=⟨rfl,q9.1 hs⟩;rcases hv.get i with⟨h1,h2⟩|⟨v,h1,h2,h3⟩
  .dsimp only;rw[h1];exact .bad trivial
  .dsimp only;rw[h1,h2];exact .ret ⟨rfl,h3⟩
 |_=>exact .bad trivial
def NR(F:Fit)(f:Nat->Nat)(a b:Next):Prop:=
 match a with
 | .value v=>b=.value (rv f v)∧vs F v=true
 | .skip=>b=.skip
 | .enter g args=>b=.enter g (args.map (rv f))∧F.S g=true∧VS F args∧(F.V g=true∨args= #[])
 | .round l g t x y=>b=.round (f l) g (t.map (rv f)) x y∧F.A l=true∧F.S g=true∧VS F t∧F.code x=true∧F.code y=true
 |_=>False
structure Hw(P:Program)(F:Fit):Prop where
 body:∀g,F.S g=true->∃fn c,P.funcs[g]?=some fn∧fn.body=some c∧(fn.name== "runtime.NumGoroutine")=false∧F.code c=true
 sub:∀g,F.V g=true->F.S g=true
theorem Al(h:Hw P F){g:FuncId}(hg:F.S g=true){aS as':Array Value}(hv:F.V g=true∨aS= #[])(ha:jf F f aS as'):dF P F f (NR F f) (callFunc g aS) (callFunc g as'):=by
 obtain⟨fn,c,h1,h2,h3,_⟩:=h.body g hg;unfold callFunc
 refine .rq ?_ (λQ hQ=>by
  obtain⟨hh,e1,e2⟩:=hQ.get g;obtain⟨b,e3,e4⟩:=e2 fn;obtain⟨c',hc'⟩:=Option.isSome_iff_exists.1 (e4 (by rw[h2];rfl));subst hc';rw[e1,h1];simp only[ay,e3,h3,h2];rfl)
 rw[h1];dsimp only;rw[h3];simp only[bC,if_false,h2,Option.isNone_some];exact .ret ⟨by rw[ha.1],hg,ha.2,hv⟩
theorem J9{ps:List (Tmp×Value)}:∀{t t':Array Value},jf F f t t'->(∀x∈ps,vs F x.2=true)->
 jf F f (ps.foldl (λtmps (x:Tmp×Value)=>tmps.setIfInBounds x.1 x.2) t) ((ps.map λx=>(x.1,rv f x.2)).foldl (λtmps (x:Tmp×Value)=>tmps.setIfInBounds x.1 x.2) t'):=by
 induction ps with
 |nil=>intro t t' h _;exact h
 |cons p ps ih=>
  intro t t' h hp;simp only[aC,List.foldl_cons];refine ih ⟨by rw[h.1,Array.map_setIfInBounds], λy hy=>?_⟩ λx hx=>hp x (aQ _ hx)
  rcases bG hy with hy|rfl
  .exact h.2 y hy
  .exact hp p (aP ..)
theorem oW(l:Nat)(hA:F.A l=true):dF P F f (λa b=>b= { a with tmps:=a.tmps.map (rv f),defers:=f a.defers }∧oS F (.loop a)) (Instr.getLoop l) (Instr.getLoop (f l)):=by
 unfold Instr.getLoop;refine(jc l hA).bind ?_
 rintro o _⟨rfl,h1,h2⟩;cases o with
 |loop a=>exact .ret ⟨rfl,h1⟩
 |_=>exact .bad trivial
theorem Qk(l:Nat)(hA:F.A l=true){aS as':Array Value}(ha:jf F f aS as'):dF P F f (NR F f) (Instr.yield l aS) (Instr.yield (f l) as'):=by
 unfold Instr.yield;refine(oW l hA).bind ?_
 rintro r _⟨rfl,h1,h2,h3,h4,h5,h6⟩;dsimp only;rw[ha.size];split
 .exact .bad trivial
 .refine .ret ⟨?_,hA,h2,?_,h4,h5⟩
  all_goals
   have key:=J9 (F:=F) (f:=f) (ps:=(r.params.zip aS).toList) (t:=r.tmps) (t':=r.tmps.map (rv f)) ⟨rfl,h1⟩ (λx hx=>ha.2 x.2 (by
    have h7:(x.1,x.2)∈r.params.toList.zip aS.toList:=by simpa using hx
    simpa using(List.of_mem_zip h7).2))
  .have e:(r.params.zip as').toList=(r.params.zip aS).toList.map λx=>(x.1,rv f x.2):=by
    rw[ha.1];simp[List.zip_map_right]
   have k1:=key.1;rw[<-Array.foldl_toList, <-Array.foldl_toList,e];exact congrArg (λt=>Next.round (f l) r.fn t r.assign r.body) k1
  .rw[<-Array.foldl_toList];exact key.2
end
end
section
variable [Sh]
def ZO(F:Fit):Value->Bool
 | .func (.func g) a b=>F.V g&&a.isEmpty&&b.isEmpty
 |v=>oV v
def eP(P:Program)(F:Fit):Operand->Bool
 | .tmp _=>true
 | .const v=>ZO F v
 | .global _=>false
 | .func g=>F.V g
def Cg(F:Fit):Operand->Bool
 | .func g=>F.S g
 | .const (.func (.func g) a b)=>F.S g&&a.isEmpty&&b.isEmpty
 |_=>false
def Ev:Builtin->Bool
 | .append| .cap| .copy| .len| .max| .min=>true
 |_=>false
def sI(P:Program)(F:Fit)(c:Call):Bool:=
 c.args.all (eP P F)&&match c.callee with
  | .value x=>eP P F x||(c.args.isEmpty&&Cg F x)
  | .builtin b=>Ev b
  | .invoke .. =>false
def jg(P:Program)(F:Fit):Op->Bool
 | .move x| .assign x| .nilCheck x| .unOp _ _ x| .box _ x| .load _ x| .field _ x _| .extract x _| .makeInterface _ x| .range _ x| .next x _=>eP P F x
 | .pick c a b=>eP P F c&&eP P F a&&eP P F b
 | .alloc _=>true
 | .build _ ps| .buildSlice _ _ ps=>ps.all λx=>eP P F x.2
 | .store _ a x| .makeSlice _ a x| .indexAddr _ a x| .index _ a x=>eP P F a&&eP P F x
 | .binOp op t x y _=>eP P F x&&eP P F y&&Qh P op t x y
 | .convert s d x=>eP P F x&&J2 P s d
 | .makeFunc fn a b=>Wi F fn&&(match fn with | .yield _=>false|_=>true)&&a.all (eP P F)&&b.all (eP P F)
 | .makeMap _ r=>r.all (eP P F)
 | .slice _ x l h m=>eP P F x&&l.all (eP P F)&&h.all (eP P F)&&m.all (eP P F)
 | .fieldAddr t x i=>eP P F x&&Fy P t i
 | .lookup t x k _=>eP P F x&&eP P F k&&xS P t
 | .mapUpdate t m k v| .insert t m k v=>eP P F m&&eP P F k&&eP P F v&&xS P t
 | .mapEntry t m k=>eP P F m&&eP P F k&&xS P t
 | .entryStore _ m k v=>eP P F m&&eP P F k&&eP P F v
 | .call c=>sI P F c
 | .panic _=>true
 |_=>false
section
variable {P:Program} {F:Fit} {f:Nat->Nat} {α β γ δ:Type}
theorem Xz{v:Value}(h:ZO F v=true):VR F f v v:=by
 have pl:oV v=true->VR F f v v:= λh=>⟨(zn (F:=F) (f:=f) h).1.symm,(zn (F:=F) (f:=f) h).2⟩
 cases v with
 |func fn a b=>
  cases fn with
  |func g=>
   simp only[ZO,bB]at h;obtain⟨⟨h1,h2⟩,h3⟩:=h;have ea:a= #[]:=by simpa[Array.isEmpty]using h2
   have eb:b= #[]:=by simpa[Array.isEmpty]using h3
   subst ea;subst eb;exact⟨by simp[T9],sD.2 ⟨h1,by intro x hx;simp at hx,by intro x hx;simp at hx⟩⟩
  |_=>exact pl h
 |_=>exact pl h
theorem oq(hR:Rn P f){fr fr':Frame}(ht:jf F f fr.tmps fr'.tmps){x:Operand}(hx:eP P F x=true):VR F f (fr.eval x) (fr'.eval x):=by
 cases x with
 |tmp t=>
  show VR F f (fr.tmps.getD t undef) (fr'.tmps.getD t undef);rw[aA,aA];rcases ht.get t with⟨h1,h2⟩|⟨v,h1,h2,h3⟩
  .rw[h1,h2];exact⟨by simp,by simp⟩
  .rw[h1,h2];exact⟨rfl,h3⟩
 |const v=>exact Xz hx
 |global g=>exact absurd hx (by simp[eP])
 |func g=>exact⟨by show Value.func (.func g) #[] #[]=rv f (.func (.func g) #[] #[]);simp[T9],sD.2 ⟨hx,by intro x hx;simp at hx,by intro x hx;simp at hx⟩⟩
theorem Ch(hR:Rn P f){fr fr':Frame}(ht:jf F f fr.tmps fr'.tmps){xs:Array Operand}(hx:xs.all (eP P F)=true):jf F f (xs.map fr.eval) (xs.map fr'.eval):=by
 refine⟨?_, λv hv=>?_⟩
 .rw[Array.map_map];exact Array.map_congr_left λx h=>(oq hR ht (aU.1 hx x h)).1
 .obtain⟨x,h,rfl⟩:=Array.mem_map.1 hv;exact(oq hR ht (aU.1 hx x h)).2
theorem xV(hR:Rn P f){fr fr':Frame}(ht:jf F f fr.tmps fr'.tmps){x:Option Operand}(hx:x.all (eP P F)=true):PL F f (x.map fr.eval) (x.map fr'.eval):=by
 cases x with
 |none=>exact .inl ⟨rfl,rfl⟩
 |some x=>
  have :=oq hR ht (by simpa using hx:eP P F x=true);exact .inr ⟨_,rfl,by rw[ay,this.1],this.2⟩
theorem Hy(hR:Rn P f){fr fr':Frame}(ht:jf F f fr.tmps fr'.tmps){ps:Array (Nat×Operand)}(hx:(ps.all λx=>eP P F x.2)=true):
 (ps.map λ(i,x)=>(i,fr'.eval x))=(ps.map λ(i,x)=>(i,fr.eval x)).map (λx=>(x.1,rv f x.2))∧∀x∈ps.map (λ(i,x)=>(i,fr.eval x)),vs F x.2=true:=by
 have key:∀x∈ps,VR F f (fr.eval x.2) (fr'.eval x.2):= λx h=>oq hR ht (aU.1 hx x h)
 refine⟨?_, λx hx=>?_⟩
 .rw[Array.map_map]
  exact Array.map_congr_left λx h=>by
   obtain⟨i,y⟩:=x;exact congrArg (Prod.mk i) (key _ h).1
 .obtain⟨y,hy,rfl⟩:=Array.mem_map.1 hx;exact(key y hy).2
theorem fo{m m':Sem Value}(h:dF P F f (VR F f) m m'):dF P F f (NR F f) (do pure (.value (<-m))) (do pure (.value (<-m'))):=
 h.bind λa b hab=>.ret ⟨by rw[hab.1],hab.2⟩
theorem Bp{m m':Sem Unit}(h:dF P F f Eq m m'):dF P F f (NR F f) (do m;pure .skip) (do m';pure .skip):=
 h.dL λ_=>.ret rfl
theorem A8:∀(w:World)(es:Array Event),(∃x w' es',Sem.runT P Instr.panicnil w es=(.halt x w',es')∧G7 x∧DK w w')∨∃a w' es',Sem.runT P Instr.panicnil w es=(.ok a w',es')∧DK w w':=by
 intro w es;have hk:DK w (w.sys .env).2:= λr ds h=>by rw[G5]at h;exact h
 unfold Instr.panicnil sys;simp only[Go.program,Bind.bind,Sem.bind,Sem.runT];cases(w.sys .env).1 with
 |strings env=>exact .inr ⟨_,_,_,rfl,hk⟩
 |_=>exact .inl ⟨_,_,_,rfl,trivial,hk⟩
theorem Ql(v v':Value):dF P F f (VR F f) (Instr.panic v) (Instr.panic v'):=.lW λw es=>by
 cases v with
 |iface t x=>exact⟨_,_,_,rfl,trivial,DK.refl⟩
 |nilIface=>
  unfold Instr.panic;refine jJ A8 (λa w es=>?_) w es
  by_cases h:(a==1)=true
  .rw[aj h];exact⟨_,_,_,rfl,trivial,DK.refl⟩
  .rw[aa h];exact oo _ w es
 |_=>exact⟨_,_,_,rfl,trivial,DK.refl⟩
theorem sJ(hF:Hw P F){v v':Value}(hv:VR F f v v'){aS as':Array Value}(ha:jf F f aS as'):
 dF P F f (NR F f) (do let d <-Deferred.ofValue v aS;invoke d.target d.args) (do let d <-Deferred.ofValue v' as';invoke d.target d.args):=by
 obtain⟨rfl,hs⟩:=hv;cases v with
 |func fn first cap=>
  obtain⟨h1,h2,h3⟩:=sD.1 hs;rw[oh];have happ:jf F f (first ++aS) (first.map (rv f)++as'):=jf.append ⟨rfl,h2⟩ ha;cases fn with
  |func g=>exact Al hF (hF.sub g h1) (.inl h1) (happ.append ⟨rfl,h3⟩)
  |yield l=>exact Qk l h1 happ
  |_=>cases h1
 |nilFunc=>rw[kV];exact eZ (α:=Next) .nilDeref _
 |_=>exact .bad trivial
theorem Ka(hR:Rn P f){b:Builtin}(hb:Ev b=true)(ts:Array TypeId)(t:TypeId)(cs:Array Bool){aS as':Array Value}(ha:jf F f aS as'):
 dF P F f (NR F f) (builtin b ts t cs aS) (builtin b ts t cs as'):=by
 cases b<;>first
  |(cases hb;done)
  |exact fo (NM hR.gD ts t ha)
  |exact fo (Xw ts t ha)
  |exact fo (Uo ts t ha)
  |exact fo (Xv ts t ha)
  |exact fo (Xx ts t ha)
  |exact fo (Xy ts t ha)
theorem Uu(hR:Rn P f)(hF:Hw P F){fr fr':Frame}(ht:jf F f fr.tmps fr'.tmps){c:Call}(hc:sI P F c=true)(t:TypeId):
 dF P F f (NR F f) (do let d <-resolve fr.eval c t;invoke d.target d.args) (do let d <-resolve fr'.eval c t;invoke d.target d.args):=by
 unfold sI at hc;rw[bB]at hc;have ha:=Ch hR ht hc.1;have h2:=hc.2;unfold resolve;cases hcl:c.callee with
 |value x=>
  rw[hcl]at h2;rcases Bool.or_eq_true_iff.1 h2 with h2|h2
  .exact sJ hF (oq hR ht h2) ha
  .rw[bB]at h2;have ea:c.args= #[]:=by simpa[Array.isEmpty]using h2.1
   obtain⟨g,hg,e1⟩:∃g,F.S g=true∧∀fr:Frame,fr.eval x=.func (.func g) #[] #[]:=by
    have h3:=h2.2;cases x with
    |func g=>exact⟨g,h3, λ_=>rfl⟩
    |const v=>
     cases v with
     |func fn a b=>
      cases fn with
      |func g=>
       simp only[Cg,bB]at h3;obtain⟨⟨h3,h4⟩,h5⟩:=h3;have e4:a= #[]:=by simpa[Array.isEmpty]using h4
       have e5:b= #[]:=by simpa[Array.isEmpty]using h5
       subst e4 e5;exact⟨g,h3, λ_=>rfl⟩
      |_=>cases h3
     |_=>cases h3
    |_=>cases h3
   simp only[e1,ea,List.map_toArray,List.map_nil];exact Al (aS:= #[]) (as':= #[]) hF hg (.inr rfl) ⟨by simp,by intro v hv;simp at hv⟩
 |builtin b=>rw[hcl]at h2;exact Ka hR h2 _ _ _ ha
 |invoke r n=>rw[hcl]at h2;cases h2
theorem Ew(hR:Rn P f)(hF:Hw P F){fr fr':Frame}(ht:jf F f fr.tmps fr'.tmps){o:Oper}(ho:jg P F o.op=true):dF P F f (NR F f) (execOp fr.eval o) (execOp fr'.eval o):=by
 unfold execOp;have ev:∀{x:Operand},eP P F x=true->VR F f (fr.eval x) (fr'.eval x):= λh=>oq hR ht h
 have av:∀{x:Operand},eP P F x=true->dF P F f (NR F f) (Pure.pure (.value (fr.eval x))) (Pure.pure (.value (fr'.eval x))):= λh=>.ret ⟨by rw[(ev h).1],(ev h).2⟩
 cases hop:o.op with
 |move x=>rw[hop]at ho;exact av ho
 |assign x=>rw[hop]at ho;exact av ho
 |pick c a b=>
  rw[hop]at ho;simp only[jg,bB]at ho;refine(zq (ev ho.1.1)).dL λt=>?_
  cases t
  .exact av ho.2
  .exact av ho.1.2
 |alloc t=>exact fo (P7 hR.gD t)
 |box t x=>rw[hop]at ho;exact fo (Xu t (ev ho))
 |build t ps=>
  rw[hop]at ho;have :=Hy hR ht ho;exact fo (Qb hR.gD t this.1 this.2)
 |buildSlice t n ps=>
  rw[hop]at ho;have :=Hy hR ht ho;exact fo (Ec hR.gD t n this.1 this.2)
 |load t a=>rw[hop]at ho;exact fo (NK t (ev ho))
 |store t a x=>
  rw[hop]at ho;simp only[jg,bB]at ho;exact Bp (JO t (ev ho.1) (ev ho.2))
 |nilCheck x=>
  rw[hop]at ho;obtain⟨e,hs⟩:=ev (x:=x) ho;dsimp only;rw[e];generalize fr.eval x=v at hs;cases v with
  |pointer a=>
   rw[dX];cases a with
   |none=>exact eZ (α:=Next) .nilDeref _
   |some a=>exact .ret ⟨by simp,hs⟩
  |nilIface=>exact eZ (α:=Next) .nilDeref _
  |nilFunc=>exact eZ (α:=Next) .nilDeref _
  |func fn a b=>
   have h1:=(sD.1 hs).1;rw[oh];cases fn with
   |func g=>exact .ret ⟨by simp,hs⟩
   |yield l=>exact .ret ⟨by simp,hs⟩
   |_=>cases h1
  |_=>exact .ret ⟨rfl,hs⟩
 |binOp op t x y yt=>
  rw[hop]at ho;simp only[jg,bB]at ho;exact fo (Qi hR ho.2 (ev ho.1.1) (ev ho.1.2) (λv e=>by subst e;rfl) (λv e=>by subst e;rfl))
 |unOp op t x=>rw[hop]at ho;exact fo (Qd op (ev ho))
 |convert s d x=>
  rw[hop]at ho;simp only[jg,bB]at ho;exact fo (J3 ho.2 (ev ho.1))
 |makeInterface t x=>
  rw[hop]at ho;refine fo ?_
  unfold Instr.makeInterface;refine(dQ t).dL λd=>?_
  cases d<;>first|exact .bad trivial|exact .ret (VR.iface (ev ho))
 |makeFunc fn a b=>
  rw[hop]at ho;simp only[jg,bB]at ho;obtain⟨⟨⟨h1,h2⟩,h3⟩,h4⟩:=ho;have ha:=Ch hR ht h3;have hb:=Ch hR ht h4;refine fo (.ret ⟨?_,sD.2 ⟨h1,ha.2,hb.2⟩⟩);rw[oh,ha.1,hb.1];cases fn<;>first|rfl|cases h2
 |makeMap t r=>rw[hop]at ho;exact fo (J6 t (xV hR ht ho))
 |makeSlice t l c=>
  rw[hop]at ho;simp only[jg,bB]at ho;exact fo (Fz hR.gD t (ev ho.1) (ev ho.2))
 |slice t x l h m=>
  rw[hop]at ho;simp only[jg,bB]at ho;exact fo (JR t (ev ho.1.1.1) (xV hR ht ho.1.1.2) (xV hR ht ho.1.2) (xV hR ht ho.2))
 |fieldAddr t x i=>
  rw[hop]at ho;simp only[jg,bB]at ho;exact fo (JP ho.2 (ev ho.1))
 |field t x i=>rw[hop]at ho;exact fo (P8 t (ev ho) i)
 |indexAddr t x i=>
  rw[hop]at ho;simp only[jg,bB]at ho;exact fo (JQ t (ev ho.1) (ev ho.2))
 |index t x i=>
  rw[hop]at ho;simp only[jg,bB]at ho;exact fo (P9 t (ev ho.1) (ev ho.2))
 |lookup t x k ok=>
  rw[hop]at ho;simp only[jg,bB]at ho;exact fo (NU hR ho.2 (ev ho.1.1) (ev ho.1.2) ok)
 |mapUpdate t m k v=>
  rw[hop]at ho;simp only[jg,bB]at ho;exact Bp (xU hR ho.2 (ev ho.1.1.1) (ev ho.1.1.2) (ev ho.1.2))
 |insert t m k v=>
  rw[hop]at ho;simp only[jg,bB]at ho;exact Bp (xU hR ho.2 (ev ho.1.1.1) (ev ho.1.1.2) (ev ho.1.2))
 |mapEntry t m k=>
  rw[hop]at ho;simp only[jg,bB]at ho;exact fo (Hu hR ho.2 (ev ho.1.1) (ev ho.1.2))
 |entryStore t m k v=>
  rw[hop]at ho;simp only[jg,bB]at ho;exact Bp (Ed t (ev ho.1.1) (ev ho.1.2) (ev ho.2))
 |range t x=>rw[hop]at ho;exact fo (Qj t (ev ho))
 |next x s=>rw[hop]at ho;exact fo (Ut _ s (ev ho))
 |extract x i=>rw[hop]at ho;exact fo (J8 (ev ho) i)
 |call c=>rw[hop]at ho;exact Uu hR hF ht ho _
 |panic x=>exact fo (Ql _ _)
 |_=>rw[hop]at ho;cases ho
end
end
end Par
namespace Par
open Go Go.Conc
section
variable [Sh]
def codeOk(P:Program)(F:Fit):Code->Bool
 | .skip| .exit _| .ret| .refuse _| .label _=>true
 | .goto _=>false
 | .region _ ops _=>ops.all λo=>jg P F o.op
 | .seq a b=>codeOk P F a&&codeOk P F b
 | .cond c a b=>eP P F c&&codeOk P F a&&codeOk P F b
 | .block _ c| .loop c| .scope c=>codeOk P F c
 | .rangeFunc x _ a b=>eP P F x&&codeOk P F a&&codeOk P F b
structure kL(P:Program)(F:Fit):Prop where
 fit:Hw P F
 code:∀c,F.code c=codeOk P F c
def ql(f:Nat->Nat):Item->Item
 | .inRangeFunc l=>.inRangeFunc (f l)
 | .endRangeFunc l=>.endRangeFunc (f l)
 |x=>x
def zz(P:Program)(F:Fit):Item->Prop
 | .code c=>F.code c=true
 | .inBlock _=>True
 | .inLoop c=>F.code c=true
 | .inScope c=>F.code c=true
 | .inRegion ops _=>(ops.all λo=>jg P F o.op)=true
 | .inRangeFunc l=>F.A l=true
 | .endRangeFunc l=>F.A l=true
 | .beginRound=>True
 | .call .. =>False
 | .extern .. =>False
def Hz(r:Nat):Deferred:={ target:=.collected r,args:= #[] }
structure jM(P:Program)(F:Fit)(fr:Frame):Prop where
 fn:F.S fr.fn=true
 tmps:VS F fr.tmps
 todo:∀i∈fr.todo,zz P F i
 defers:∀d∈fr.defers,∃r,d=Hz r∧F.A r=true
 kind:fr.kind=.normal
 round:∀l,fr.roundOf=some l->F.A l=true
def ic(f:Nat->Nat)(fr:Frame):Frame:=
 { fr with tmps:=fr.tmps.map (rv f),todo:=fr.todo.map (ql f),defers:=fr.defers.map (rd f),roundOf:=fr.roundOf.map f }
section
variable {P:Program} {F:Fit} {f:Nat->Nat} {w W:World}
theorem jM.vsr{fr:Frame}(h:jM P F fr):jf F f fr.tmps (ic f fr).tmps:=⟨rfl,h.tmps⟩
theorem Ia(ops:Array Oper)(tmps:Array Value):yielded ops (tmps.map (rv f))=yielded ops tmps:=by
 funext j;unfold yielded;cases h:(ops[j]?).bind (·.dst)with
 |none=>rfl
 |some d=>
  simp only[Option.bind_some,aG];cases ht:tmps[d]? with
  |none=>rfl
  |some v=>cases v<;>simp
theorem oZ(fr:Frame)(v:Value)(hno:∀i∈fr.todo,zz P F i):(ic f fr).finish (rv f v)=ic f (fr.finish v):=by
 cases ht:fr.todo with
 |nil=>simp[Frame.finish,ic,ht]
 |cons i k=>
  have hi:zz P F i:=hno i (by simp[ht]);cases i with
  |inRegion ops l=>
   cases l with
   |nil=>simp[Frame.finish,ic,ht,ql]
   |cons x rest=>
    simp only[Frame.finish,ic,ht,aC,ql];cases(ops[x]?).bind (·.dst)with
    |none=>rfl
    |some d=>simp[Array.map_setIfInBounds]
  |call _ _ _ _=>exact hi.elim
  |extern _ _=>exact hi.elim
  |_=>simp[Frame.finish,ic,ht,ql]
theorem jM.finish{fr:Frame}(h:jM P F fr){v:Value}(hv:vs F v=true):jM P F (fr.finish v):=by
 obtain⟨h1,h2,h3,h4,h5,h6⟩:=h;unfold Frame.finish;split
 .rename_i ops i rest k ht;rw[ht]at h3;refine⟨h1,?_,?_,h4,h5,h6⟩
  .dsimp only;split
   .intro x hx;rcases bG hx with hx|rfl
    .exact h2 x hx
    .exact hv
   .exact h2
  .intro x hx;rcases bD.1 hx with rfl|hx
   .exact h3 (.inRegion ops (i::rest)) (by simp)
   .exact h3 x (by simp[hx])
 .rename_i l k ht;rw[ht]at h3;refine⟨h1,h2, λx hx=>?_,h4,h5,h6⟩;rcases bD.1 hx with rfl|hx
  .exact h3 (.inRangeFunc l) (by simp)
  .exact h3 x (by simp[hx])
 .rename_i k ht;rw[ht]at h3;exact⟨h1,h2, λx hx=>h3 x (by simp[hx]),h4,h5,h6⟩
 .rename_i ht;rw[ht]at h3;exact az (h3 (.call _ _ _ _) (aP ..))
 .rename_i ht;rw[ht]at h3;exact az (h3 (.extern _ _) (aP ..))
 .exact⟨h1,h2,h3,h4,h5,h6⟩
theorem jM.enter(hF:kL P F){g:FuncId}(hg:F.S g=true){aS:Array Value}(ha:VS F aS):jM P F (Frame.enter P g aS .normal):=by
 obtain⟨fn,c,h1,h2,_,h4⟩:=hF.fit.body g hg;refine⟨hg, λx hx=>?_, λi hi=>?_,by simp[Frame.enter],rfl,by simp[Frame.enter]⟩
 .rcases Array.mem_append.1 hx with hx|hx
  .exact ha x hx
  .rw[(Array.mem_replicate.1 hx).2];exact oQ
 .simp[Frame.enter,h1,h2]at hi;subst hi;exact h4
theorem zA(hF:kL P F){g:FuncId}(hg:F.S g=true)(aS:Array Value):Frame.enter P g (aS.map (rv f)) .normal=ic f (Frame.enter P g aS .normal):=by
 obtain⟨fn,c,h1,h2,_,h4⟩:=hF.fit.body g hg;simp[Frame.enter,ic,h1,h2,ql,Array.map_append,Array.map_replicate]
theorem jM.rnd{l:Nat}{g:FuncId}{t:Array Value}{a b:Code}(hl:F.A l=true)(hg:F.S g=true)(ht:VS F t)(ha:F.code a=true)(hb:F.code b=true):jM P F (Frame.round l g t a b .normal):=
 ⟨hg,ht, λi hi=>by simp[Frame.round]at hi;rcases hi with rfl|rfl|rfl<;>first|exact ha|exact trivial|exact hb,by simp[Frame.round],rfl, λl' hl'=>by simp[Frame.round]at hl';subst hl';exact hl⟩
theorem NW(l:Nat)(g:FuncId)(t:Array Value)(a b:Code):Frame.round (f l) g (t.map (rv f)) a b .normal=ic f (Frame.round l g t a b .normal):=by
 simp[Frame.round,ic,ql]
theorem Ib(P:Program)(fn:FuncId)(u:Array Event):seen P fn (u.map (rev f))=(seen P fn u).map (rev f):=by
 have step:∀(quiet:FuncId->Bool)(x:Bool×Array Event)(e:Event),seenStep quiet (x.1,x.2.map (rev f)) (rev f e)=((seenStep quiet x e).1,(seenStep quiet x e).2.map (rev f)):=by
  intro quiet x e;obtain⟨q,a⟩:=x;obtain⟨loc,wr,sy⟩:=e
  have plain:∀s:Bool,(rev f ⟨loc,wr,sy⟩).sync=s->(if(q&&!s)=true then a.map (rev f)else(a.map (rev f)).push (rev f ⟨loc,wr,sy⟩))=(if(q&&!s)=true then a else a.push ⟨loc,wr,sy⟩).map (rev f):=by
   intro s _;split
   .rfl
   .rw[Array.map_push]
  have hs:(rev f ⟨loc,wr,sy⟩).sync=sy:=by rfl
  cases loc with
  |mark m=>cases m<;>first|rfl|exact congrArg (Prod.mk q) (plain sy hs)
  |_=>exact congrArg (Prod.mk q) (plain sy hs)
 have key:∀(quiet:FuncId->Bool)(l:List Event)(x:Bool×Array Event),(l.map (rev f)).foldl (seenStep quiet) (x.1,x.2.map (rev f))=((l.foldl (seenStep quiet) x).1,(l.foldl (seenStep quiet) x).2.map (rev f)):=by
  intro quiet l
  induction l with
  |nil=>intro x;rfl
  |cons e l ih=>
   intro x;simp only[aC,List.foldl_cons];rw[step,ih]
 rw[seen_def,seen_def,Array.toList_map];have :=key (λf=>(P.funcs[f]?).any (·.norace)) u.toList ((P.funcs[fn]?).any (·.norace),#[]);rw[Array.map_empty]at this;rw[this]
end
end
section
variable [Sh]
def tQ(P:Program)(F:Fit):Frame->List Frame->Prop
 |fr,[]=>jM P F fr∧fr.roundOf=none
 |fr,g::up=>jM P F fr∧g.mode=.run∧tQ P F g up
def coll(F:Fit)(fr:Frame):Prop:=∀d∈fr.defers,∃r,d=Hz r∧F.A r=true
def PS(F:Fit)(cs:List Frame)(g:Goroutine)(w:World):Prop:=
 ∃fr up chain,g=G fr (up++cs)∧fr.mode=.panicking chain∧(∀x∈fr::up,coll F x)∧BF F w
def gw:GStep->World
 | .go _ w _| .comm _ _ _ _ w _| .spawn _ _ w _| .count _ w _| .timer _ _ w _| .alone _ _ w _| .newcoro _ _ _ w _| .coroswitch _ _ _ w _| .collect _ w _| .watch _ w _| .ended _ w _=>w
def Top(P Q:Program)(F:Fit)(f:Nat->Nat)(fr:Frame)(up:List Frame)(X:Frame):Prop:=
 X=ic f fr∨∃g aS,F.S g=true∧VS F aS∧(F.V g=true∨aS= #[])∧up≠ []∧fr=Frame.enter P g aS .normal∧X=Frame.enter Q g (aS.map (rv f)) .normal
def SR(P Q:Program)(F:Fit)(f:Nat->Nat)(cs K:List Frame)(w W:World)(s S:GStep):Prop:=
 Out F w (gw s)∨match s with
 | .ended .. =>True
 | .go g w1 es=>PS F cs g w1∨∃qh wR X W1 es',g=G qh (wR++cs)∧tQ P F qh wR∧(qh.mode=.run∨qh.mode=.returning)∧Top P Q F f qh wR X∧
     S=.go (G X (wR.map (ic f)++K)) W1 es'∧Mv F f w W w1 W1∧zm F f w1 #[] #[] es es'
 |_=>False
section
variable {P Q:Program} {F:Fit} {f:Nat->Nat} {w W:World} {cs K:List Frame}
theorem tQ.top{fr:Frame}{up:List Frame}(h:tQ P F fr up):jM P F fr:=by
 cases up with
 |nil=>exact h.1
 |cons g up=>exact h.1
theorem tQ.set{fr fr':Frame}{up:List Frame}(h:tQ P F fr up)(h1:jM P F fr')(h2:fr'.roundOf=fr.roundOf):tQ P F fr' up:=by
 cases up with
 |nil=>exact⟨h1,h2.trans h.2⟩
 |cons g up=>exact⟨h1,h.2⟩
theorem tQ.push{fr fr':Frame}{up:List Frame}(h:tQ P F fr up)(h1:jM P F fr')(hm:fr.mode=.run):tQ P F fr' (fr::up):=⟨h1,hm,h⟩
theorem tQ.coll:∀{fr:Frame}{up:List Frame},tQ P F fr up->∀x∈fr::up,coll F x
 |fr,[],h=>by intro x hx;simp at hx;subst hx;exact h.1.defers
 |fr,g::up,h=>by
  intro x hx;rcases bD.1 hx with rfl|hx
  .exact h.1.defers
  .exact tQ.coll h.2.2 x hx
theorem jM.todo'{fr:Frame}(h:jM P F fr){t:List Item}(ht:∀i∈t,zz P F i):jM P F { fr with todo:=t }:=
 ⟨h.fn,h.tmps,ht,h.defers,h.kind,h.round⟩
theorem l6(fr:Frame)(v:Value):(fr.finish v).roundOf=fr.roundOf:=by
 unfold Frame.finish;split<;>rfl
theorem nO(fr:Frame)(v:Value):(fr.finish v).mode=fr.mode:=by
 unfold Frame.finish;split<;>rfl
theorem L9(w1:World):zm F f w1 #[] #[] #[] #[]:=⟨#[],by simp,by simp,by simp⟩
theorem Alike.quiet(hQ:Alike P Q):(λf:FuncId=>(Q.funcs[f]?).any (·.norace))= λf=>(P.funcs[f]?).any (·.norace):=by
 funext g;obtain⟨h,h1,h2⟩:=hQ.get g;rw[h1];cases P.funcs[g]? with
 |none=>rfl
 |some fn=>
  obtain⟨b,hb,_⟩:=h2 fn;simp[hb]
theorem Alike.seen(hQ:Alike P Q)(fn:FuncId)(es:Array Event):Go.seen Q fn es=Go.seen P fn es:=by
 rw[seen_def,seen_def,hQ.quiet];have :=congrFun hQ.quiet fn;simp only at this;rw[this]
theorem Ic(hQ:Alike P Q){w1:World}{fn:FuncId}{es es':Array Event}(h:zm F f w1 #[] #[] es es'):zm F f w1 #[] #[] (seen P fn es++ #[]) (seen Q fn es'++ #[]):=by
 rw[hQ.seen];obtain⟨u,rfl,rfl,hu⟩:=h;refine⟨seen P fn u,by simp,by simp[Ib], λe he=>hu e (mem_seen he)⟩
theorem SR.quiet(ha:Ag F f w W){qh:Frame}{wR:List Frame}(hs:tQ P F qh wR)(hm:qh.mode=.run∨qh.mode=.returning):
 SR P Q F f cs K w W (.go (G qh (wR++cs)) w #[]) (.go (G (ic f qh) (wR.map (ic f)++K)) W #[]):=
 .inr (.inr ⟨qh,wR,_,W,#[],rfl,hs,hm,.inl rfl,rfl,Mv.refl ha,L9 w⟩)
theorem SR.acts(hQ:Alike P Q){w1 W1:World}{fn:FuncId}{es es':Array Event}{qh:Frame}{wR:List Frame}(hs:tQ P F qh wR)(hm:qh.mode=.run∨qh.mode=.returning)(hv:Mv F f w W w1 W1)(he:zm F f w1 #[] #[] es es'):
 SR P Q F f cs K w W (GStep.after (seen P fn es) (.go (G qh (wR++cs)) w1 #[])) (GStep.after (seen Q fn es') (.go (G (ic f qh) (wR.map (ic f)++K)) W1 #[])):=
 .inr (.inr ⟨qh,wR,_,W1,_,rfl,hs,hm,.inl rfl,rfl,hv,Ic hQ he⟩)
theorem SR.falls{w1:World}{es:Array Event}{fr:Frame}{up:List Frame}{S:GStep}(v:List PanicEntry)(hs:tQ P F fr up)(hd:BF F w1):
 SR P Q F f cs K w W (GStep.after es (.go (G (fr.raise v) (up++cs)) w1 #[])) S:=by
 refine .inr (.inl ?_);have hc:=hs.coll
 have hm:∃ch,(fr.raise v).mode=.panicking ch:=by
  unfold Frame.raise;cases fr.mode with
  |panicking ch=>exact⟨_,rfl⟩
  |_=>exact⟨_,rfl⟩
 obtain⟨ch,hm⟩:=hm;refine⟨fr.raise v,up,ch,rfl,hm, λx hx=>?_,hd⟩;rcases bD.1 hx with rfl|hx
 .have :=hc fr (aP ..);intro d Qm;refine this d ?_
  unfold Frame.raise at Qm;cases hmm:fr.mode<;>(rw[hmm]at Qm;exact Qm)
 .exact hc x (aQ _ hx)
theorem kM(es:Array Event)(s:GStep):gw (GStep.after es s)=gw s:=by cases s<;>rfl
theorem xW{α:Type}(m:Sem α)(w:World):w.heap.size<=(rw' (m.run P w)).heap.size:=by
 have :=runT_size (P:=P) m w #[];rw[Sem.runT_fst]at this;exact this
theorem zB{α:Type}{m:Sem α}{w:World}{r:Result α}(h:m.run P w=r):w.heap.size<=(rw' r).heap.size:=h ▸ xW (P:=P) m w
theorem Ee(fr:Frame)(k:List Frame)(d:Option Dying)(m:String)(w:World):w.heap.size<=(gw (endFatal P fr k d m w)).heap.size:=by
 unfold endFatal;dsimp only;split
 .rename_i h;exact zB h
 .rename_i h;exact zB h
 .rename_i h;exact zB h
theorem Kb(fr:Frame)(k:List Frame)(d:Option Dying)(g:Nat)(w:World):w.heap.size<=(gw (early P fr k d g w)).heap.size:=by
 have ny:∀w0 w:World,w0.heap.size<=w.heap.size->w0.heap.size<=(gw (match w.heap[g]? with
  |some (.pending c elem)=>GStep.go { frame:=fr,callers:=k,status:=.running,dying:=d } { w with heap:=w.heap.setIfInBounds g (.cells c elem) }
  |_=>.ended (.stuck "early: the variable does not wait" (fr.pos P)) w)).heap.size:=by
  intro w0 w h;split
  .simpa[gw]using h
  .exact h
 unfold early;dsimp only;split
 .exact ny w w (aJ _)
 .split
  .exact aJ _
  .split
   .exact ny w w (aJ _)
   .split
    .exact ny w w (aJ _)
    .split
     .exact aJ _
     .exact aJ _
     .exact aJ _
     .exact ny w w (aJ _)
     .split
      .exact aJ _
      .split
       .exact ny w w (aJ _)
       .split
        .rename_i h;have :=xW (P:=P) (choose (.early g)) w;rw[h]at this;exact ny _ _ this
        .rename_i h;have :=xW (P:=P) (choose (.early g)) w;rw[h]at this;exact this
        .rename_i h;have :=xW (P:=P) (choose (.early g)) w;rw[h]at this;exact this
theorem Ie{fr:Frame}{k:List Frame}(hk:(fr.kind==CallKind.early)=false)(m:Sem Next)(w:World):
 (rw' (m.runT P w #[]).1).heap.size<=(gw (stepG.apply P true fr k none m w)).heap.size:=by
 unfold stepG.apply;simp only[if_true,hk];generalize m.runT P w #[]=x;obtain⟨x1,x2⟩:=x;rw[kM];cases x1 with
 |ok a w1=>
  cases a<;>first
   |exact aJ _
   |(dsimp only;split<;>exact aJ _)
   |(dsimp only;split<;>split<;>exact aJ _)
 |halt h w1=>
  cases h<;>first
   |exact aJ _
   |exact Ee ..
   |(rename_i u;cases u<;>first|exact aJ _|exact Kb ..)
theorem zC(hQ:Alike P Q)(hF:kL P F)(hi:∀a b,Sh.lk a=false->Sh.hol b=false->f a=f b->a=b)(ha:Ag F f w W){fr:Frame}{up:List Frame}(hs:tQ P F fr up)(hm:fr.mode=.run){m m':Sem Next}(h:dF P F f (NR F f) m m'):
 SR P Q F f cs K w W (stepG.apply P true fr (up++cs) none m w) (stepG.apply Q true (ic f fr) (up.map (ic f)++K) none m' W):=by
 have hfr:=hs.top;have hr:=h.BI hQ hi w W #[] #[] ha;have hk:(fr.kind==CallKind.early)=false:=by rw[hfr.kind];rfl
 have hk':((ic f fr).kind==CallKind.early)=false:=hk;have hfn:(ic f fr).fn=fr.fn:=rfl;have hgw:=Ie (P:=P) (k:=up++cs) hk m w;rcases hr with ho|hr
 .obtain⟨b,b1,b2,b3⟩:=ho;exact .inl ⟨b,b1,by omega,b3⟩
 clear hgw;unfold stepG.apply;simp only[if_true,hk,hk',hfn];generalize m.runT P w #[]=x at hr;generalize m'.runT Q W #[]=y at hr;obtain⟨x1,x2⟩:=x;obtain⟨y1,y2⟩:=y;cases x1 with
 |ok a w1=>
  obtain⟨b,W1,h1,h2,h3,h4⟩:=hr;simp only at h1 h4;subst h1;simp only[bC,if_false];cases a with
  |value v=>
   obtain⟨rfl,hv⟩:=h2;have :=SR.acts (P:=P) (Q:=Q) (cs:=cs) (K:=K) (fn:=fr.fn) hQ (hs.set (hfr.finish hv) (l6 fr v)) (.inl ((nO fr v).trans hm)) h3 h4;rw[<-oZ (f:=f) fr v hfr.todo]at this;exact this
  |skip=>
   have h2':b=.skip:=h2
   subst h2';have :=SR.acts (P:=P) (Q:=Q) (cs:=cs) (K:=K) (fn:=fr.fn) hQ (hs.set (hfr.finish (v:=undef) oQ) (l6 fr _)) (.inl ((nO fr _).trans hm)) h3 h4;rw[<-oZ (f:=f) fr undef hfr.todo,GZ]at this;exact this
  |enter g aS=>
   obtain⟨rfl,hg,has,hv⟩:=h2
   have this:SR P Q F f cs K w W (GStep.after (seen P fr.fn x2) (.go (G (Frame.enter P g aS .normal) ((fr::up)++cs)) w1 #[])) (GStep.after (seen Q fr.fn y2) (.go (G (Frame.enter Q g (aS.map (rv f)) .normal) ((fr::up).map (ic f)++K)) W1 #[])):=
    .inr (.inr ⟨_,fr::up,_,W1,_,rfl,hs.push (jM.enter hF hg has) hm,.inl rfl,.inr ⟨g,aS,hg,has,hv,by simp,rfl,rfl⟩,rfl,h3,Ic hQ h4⟩)
   have hT:(ic f fr).todo=fr.todo.map (ql f):=rfl;cases ht:fr.todo with
   |nil=>simp only[hT,ht,List.map_nil];exact this
   |cons i k=>
    have hi:=hfr.todo i (by rw[ht];exact aP ..);simp only[hT,ht,aC];cases i<;>first|exact this|exact az hi
  |round l g t x y=>
   obtain⟨rfl,hl,hg,ht,hx,hy⟩:=h2;have :=SR.acts (P:=P) (Q:=Q) (cs:=cs) (K:=K) (fn:=fr.fn) hQ (hs.push (jM.rnd hl hg ht hx hy) hm) (.inl rfl) h3 h4;rw[<-NW (f:=f) l g t x y]at this;exact this
  |_=>exact h2.elim
 |halt hh w1=>
  obtain⟨hb,hd⟩:=hr;cases hh with
  |panic v=>exact SR.falls _ hs hd
  |stuck s=>exact .inr trivial
  |unsupported u=>
   cases u<;>first|exact hb.elim|exact .inr trivial
  |_=>exact hb.elim
end
end
section
variable [Sh]
section
variable {P:Program} {F:Fit} {f:Nat->Nat} {w W:World} {cs K:List Frame}
theorem Ci(id:Nat):∀(k:List Item),exitTo id (k.map (ql f))=(exitTo id k).map (List.map (ql f))
 | []=>rfl
 |i::k=>by
  have ih:=Ci id k;cases i<;>first|exact ih|(simp only[aC,ql,exitTo];split<;>first|rfl|exact ih)
theorem Cj{id:Nat}:∀{k k':List Item},exitTo id k=some k'->∀i∈k',i∈k
 | [],k',h=>by cases h
 |i::k,k',h=>by
  intro j hj;have ih:∀k',exitTo id k=some k'->∀i∈k',i∈k:= λk'=>Cj
  cases i<;>first
   |exact aQ _ (ih _ h j hj)
   |(simp only[exitTo]at h;split at h
     .cases h;exact aQ _ hj
     .exact aQ _ (ih _ h j hj))
theorem lC(l:Nat)(hA:F.A l=true){jump:Option Code}(hj:∀c,jump=some c->F.code c=true):dF P F f (VR F f) (Instr.endRound l jump) (Instr.endRound (f l) jump):=by
 unfold Instr.endRound;refine(oW l hA).bind ?_
 rintro r _⟨rfl,h1,h2,h3,h4,h5,h6⟩;refine(mU l hA (o:=.loop { r with state:=if jump.isNone then .ready else .done,pending:=jump }) ⟨h1,h2,h3,h4,h5,hj⟩ rfl).bind λ_ _ _=>.ret VR.bool
theorem wm(l:Nat)(hA:F.A l=true):dF P F f Eq (Instr.beginRound l) (Instr.beginRound (f l)):=by
 unfold Instr.beginRound;refine(oW l hA).bind ?_
 rintro r _⟨rfl,h1,h2,h3,h4,h5,h6⟩;refine(mU l hA (o:=.loop { r with state:=.busy }) ⟨h1,h2,h3,h4,h5,h6⟩ rfl).bind λ_ _ _=>?_
 cases r.state with
 |ready=>exact .ret rfl
 |_=>exact eZ _ _
theorem Ck(l:Nat)(hA:F.A l=true):dF P F f (λa b=>a=b∧∀c,a=some c->F.code c=true) (Instr.endLoop l) (Instr.endLoop (f l)):=by
 unfold Instr.endLoop;refine(oW l hA).bind ?_
 rintro r _⟨rfl,h1,h2,h3,h4,h5,h6⟩;dsimp only;split
 .exact dF.bind (R:= λ_ _=>False) (eZ _ _) λ_ _ x=>x.elim
 .exact(mU l hA (o:=.loop { r with state:=.exhausted }) ⟨h1,h2,h3,h4,h5,h6⟩ rfl).bind λ_ _ _=>.ret ⟨rfl,h6⟩
theorem tT(l:Nat)(hA:F.A l=true):dF P F f (λa b=>a= []∧b= []) (Instr.takeDeferred l) (Instr.takeDeferred (f l)):=by
 unfold Instr.takeDeferred;refine(jc l hA).bind ?_
 rintro o _⟨rfl,h1,h2⟩;cases o with
 |deferred ds=>
  rcases h1 with rfl|rfl
  .exact(mU l hA (o:=.deferred none) (.inr rfl) rfl).bind λ_ _ _=>.ret ⟨rfl,rfl⟩
  .exact .bad trivial
 |_=>exact .bad trivial
theorem xX{fn:FuncId}(hfn:F.S fn=true){t:Array Value}(ht:VS F t)(ps:Array Tmp){a b:Code}(ha:F.code a=true)(hb:F.code b=true){ar:Option Nat}(har:∀l,ar=some l->F.A l=true):
 dF P F f (λ(x y:Nat×List Deferred)=>y=(f x.1,x.2.map (rd f))∧F.A x.1=true∧∀d∈x.2,∃r,d=Hz r∧F.A r=true) (Instr.enterLoop fn t ps a b ar) (Instr.enterLoop fn (t.map (rv f)) ps a b (ar.map f)):=by
 unfold Instr.enterLoop
 have fin:∀(d:Nat)(mk:List Deferred),F.A d=true->(∀x∈mk,∃r,x=Hz r∧F.A r=true)->
  dF P F f (λ(x y:Nat×List Deferred)=>y=(f x.1,x.2.map (rd f))∧F.A x.1=true∧∀d∈x.2,∃r,d=Hz r∧F.A r=true)
   (do let r <-newObj (Obj.loop { state:=.ready,pending:=none,fn:=fn,tmps:=t,params:=ps,assign:=a,body:=b,defers:=d });pure (r,mk))
   (do let r <-newObj (Obj.loop { state:=.ready,pending:=none,fn:=fn,tmps:=t.map (rv f),params:=ps,assign:=a,body:=b,defers:=f d });pure (r,mk.map (rd f))):=by
  intro d mk h1 h2;refine(oI (o:=.loop { state:=.ready,pending:=none,fn:=fn,tmps:=t,params:=ps,assign:=a,body:=b,defers:=d }) ⟨ht,hfn,h1,ha,hb,by intro c hc;cases hc⟩).bind ?_
  rintro r _⟨rfl,hr,_⟩;exact .ret ⟨rfl,hr,h2⟩
 cases ar with
 |none=>
  refine(oI (o:=.deferred (some [])) (.inl rfl)).bind ?_
  rintro r _⟨rfl,hr,_⟩;have h0: [Hz r].map (rd f)= [Hz (f r)]:=by simp[Hz,rd]
  have h1:=fin r [Hz r] hr (by intro d hd;simp at hd;subst hd;exact⟨r,rfl,hr⟩);rw[h0]at h1;exact h1
 |some l=>
  refine(oW l (har l rfl)).bind ?_
  rintro r _⟨rfl,h1,h2,h3,h4,h5,h6⟩;exact fin r.defers [] h3 (by intro d hd;cases hd)
end
end
section
variable [Sh]
section
variable {P Q:Program} {F:Fit} {f:Nat->Nat} {w W:World} {cs K:List Frame}
theorem SR.out{w2:World}{s S:GStep}(ho:Out F w w2)(hs:w2.heap.size<=(gw s).heap.size):SR P Q F f cs K w W s S:=
 let⟨b,h1,h2,h3⟩:=ho; .inl ⟨b,h1,aK h2 hs,h3⟩
theorem jO(ma:Bool)(fr:Frame)(k:List Frame)(d:Option Dying)(v:Value)(w:World):w.heap.size<=(gw (doReturn P ma fr k d v w)).heap.size:=by
 unfold doReturn;split
 .split<;>exact aJ _
 .split
  .exact aJ _
  .exact aJ _
  .split
   .exact aJ _
   .split<;>exact aJ _
theorem ou(hQ:Alike P Q)(ma mb:Bool){fr g:Frame}{up:List Frame}{w1 W1:World}{fn:FuncId}{es es':Array Event}{v v':Value}(hfr:jM P F fr)(hg:g.mode=.run)(hs:tQ P F g up)(hv:VR F f v v')(hm:Mv F f w W w1 W1)(he:zm F f w1 #[] #[] es es'):
 SR P Q F f cs K w W (GStep.after (seen P fn es) (doReturn P ma fr (g::(up++cs)) none v w1)) (GStep.after (seen Q fn es') (doReturn Q mb (ic f fr) (ic f g::(up.map (ic f)++K)) none v' W1)):=by
 obtain⟨rfl,hv⟩:=hv;have :=SR.acts (P:=P) (Q:=Q) (cs:=cs) (K:=K) (fn:=fn) hQ (hs.set (hs.top.finish hv) (l6 g v)) (.inl ((nO g v).trans hg)) hm he;rw[<-oZ (f:=f) g v hs.top.todo]at this;unfold doReturn;have hk:(ic f fr).kind=.normal:=hfr.kind;simp only[hfr.kind,hk];exact this
theorem SR.after(hQ:Alike P Q){w1 W1:World}{fn:FuncId}{es es':Array Event}{s S:GStep}(ha:Ag F f w W)(hm:Mv F f w W w1 W1)(he:zm F f w1 #[] #[] es es')(h:SR P Q F f cs K w1 W1 s S):
 SR P Q F f cs K w W (GStep.after (seen P fn es) s) (GStep.after (seen Q fn es') S):=by
 rcases h with ho|h
 .obtain⟨k,hk,_⟩:=hm.size;exact SR.out (ho.mono (by omega)) (by rw[kM];exact aJ _)
 refine .inr ?_
 cases s with
 |go g w2 u=>
  rcases h with h|⟨qh,wR,X,W2,u',rfl,h1,h2,h5,rfl,h3,h4⟩
  .exact .inl h
  .refine .inr ⟨qh,wR,X,W2,_,rfl,h1,h2,h5,rfl,hm.trans ha h3,?_⟩;rw[hQ.seen];obtain⟨z,rfl,rfl,hz⟩:=h4;obtain⟨y,rfl,rfl,hy⟩:=he;refine⟨seen P fn y++z,by simp,by simp[Ib], λe he=>?_⟩;rcases Array.mem_append.1 he with he|he
   .exact(hy e (mem_seen he)).mono h3
   .exact hz e he
 |ended _ _ _=>exact trivial
 |_=>exact h.elim
theorem Qn(hQ:Alike P Q)(hF:kL P F)(hR:Rn P f)(ha:Ag F f w W)(ma mb:Bool){fr:Frame}{up:List Frame}(hs:tQ P F fr up)(hm:fr.mode=.run):
 SR P Q F f cs K w W (stepG.exec P ma true fr (up++cs) none w) (stepG.exec Q mb true (ic f fr) (up.map (ic f)++K) none W):=by
 have hfr:=hs.top;have hT:(ic f fr).todo=fr.todo.map (ql f):=rfl
 have to:∀t:List Item,(∀i∈t,zz P F i)->SR P Q F f cs K w W (.go (G { fr with todo:=t } (up++cs)) w #[]) (.go (G { ic f fr with todo:=t.map (ql f) } (up.map (ic f)++K)) W #[]):=
  λt ht=>SR.quiet ha (hs.set (hfr.todo' ht) rfl) (.inl hm)
 cases ht:fr.todo with
 |nil=>
  unfold stepG.exec;simp only[hT,ht,List.map_nil];cases hro:fr.roundOf with
  |none=>
   have wS:(ic f fr).roundOf=none:=by show fr.roundOf.map f=none;rw[hro];rfl
   simp only[hro,wS,if_true];have h1:=SR.quiet (P:=P) (Q:=Q) (cs:=cs) (K:=K) ha (hs.set (fr':={ fr with todo:=[],mode:=.returning,roundOf:=none }) ⟨hfr.fn,hfr.tmps,(by intro i hi;cases hi),hfr.defers,hfr.kind,(by intro l hl;cases hl)⟩ hro.symm) (.inr rfl);exact h1
  |some l=>
   have wS:(ic f fr).roundOf=some (f l):=by show fr.roundOf.map f=_;rw[hro];rfl
   simp only[hro,wS];have hr:=(lC (P:=P) (F:=F) (f:=f) l (hfr.round l hro) (jump:=none) (by intro c hc;cases hc)).BI hQ hR.inj w W #[] #[] ha;generalize Sem.runT P (Instr.endRound l none) w #[]=x at hr;generalize Sem.runT Q (Instr.endRound (f l) none) W #[]=y at hr;obtain⟨x1,x2⟩:=x;obtain⟨y1,y2⟩:=y;rcases hr with ho|hr
   .refine SR.out ho ?_
    try rw[kM]
    cases x1<;>first|exact aJ _|exact jO .. |(rename_i hh _;cases hh<;>exact aJ _)|(dsimp only;split<;>exact aJ _)
   cases x1 with
   |ok v w1=>
    obtain⟨v',W1,h1,h2,h3,h4⟩:=hr;simp only at h1 h4;subst h1;cases up with
    |nil=>exact absurd (hs.2.symm.trans hro) (by simp)
    |cons g up=>exact ou hQ ma mb hfr hs.2.1 hs.2.2 h2 h3 h4
   |halt _ _=>exact .inr trivial
 |cons i k=>
  have hall:=hfr.todo;rw[ht]at hall;have hi:=hall i (aP ..);have hk:∀j∈k,zz P F j:= λj hj=>hall j (aQ _ hj)
  have cons:∀{x:Item}{k:List Item},zz P F x->(∀j∈k,zz P F j)->∀j∈x::k,zz P F j:=by
   intro x k h1 h2 j hj;rcases bD.1 hj with rfl|hj
   .exact h1
   .exact h2 j hj
  cases i with
  |inBlock _=>
   unfold stepG.exec;simp only[hT,ht,aC,ql];exact to k hk
  |inScope _=>
   unfold stepG.exec;simp only[hT,ht,aC,ql];exact to k hk
  |inLoop c=>
   unfold stepG.exec;simp only[hT,ht,aC,ql];exact to (.code c:: .inLoop c::k) (cons hi (cons hi hk))
  |inRegion ops l=>
   cases l with
   |nil=>
    unfold stepG.exec;simp only[hT,ht,aC,ql];exact to k hk
   |cons n rest=>
    have hy:yielded ops (ic f fr).tmps=yielded ops fr.tmps:=Ia ops fr.tmps;unfold stepG.exec;simp only[hT,ht,aC,ql,hy];cases hw:((ops[n]?).map (λx=>Region.wanted x (yielded ops fr.tmps))).getD false with
    |false=>
     simp only[bC,if_false];have h1:=SR.quiet (P:=P) (Q:=Q) (cs:=cs) (K:=K) ha (hs.set (hfr.finish (v:=undef) oQ) (l6 fr undef)) (.inl ((nO fr _).trans hm));rw[<-oZ (f:=f) fr undef hfr.todo,GZ]at h1;simp only[Frame.finish,hT,ht,aC,ql]at h1⊢;exact h1
    |true=>
     simp only[if_true]
     have ho:∃o,ops[n]?=some o:=by
      cases h:ops[n]? with
      |none=>rw[h]at hw;cases hw
      |some o=>exact⟨o,rfl⟩
     obtain⟨o,ho⟩:=ho
     have hop:jg P F o.op=true:=by
      have :=aU.1 hi o (aZ ho);exact this
     have e1:fr.oper?=some o:=by unfold Frame.oper?;rw[ht];exact ho
     have e2:(ic f fr).oper?=some o:=by unfold Frame.oper?;rw[hT,ht];exact ho
     have key:=zC (P:=P) (Q:=Q) (cs:=cs) (K:=K) hQ hF hR.inj ha hs hm (Ew hR hF.fit hfr.vsr hop);unfold stepG.oper;simp only[e1,e2]
     cases hx:o.op<;>first
      |(rw[hx]at hop;cases hop;done)
      |(cases fr.roundOf<;>cases(ic f fr).roundOf<;>exact key)
  |inRangeFunc l=>
   unfold stepG.exec;simp only[hT,ht,aC,ql];exact .inr trivial
  |endRangeFunc l=>
   unfold stepG.exec;simp only[hT,ht,aC,ql];have hr:=(Ck (P:=P) (F:=F) (f:=f) l hi).BI hQ hR.inj w W #[] #[] ha;generalize Sem.runT P (Instr.endLoop l) w #[]=x at hr;generalize Sem.runT Q (Instr.endLoop (f l)) W #[]=y at hr;obtain⟨x1,x2⟩:=x;obtain⟨y1,y2⟩:=y;rcases hr with ho|hr
   .refine SR.out ho ?_
    try rw[kM]
    cases x1<;>first|exact aJ _|exact jO .. |(rename_i hh _;cases hh<;>exact aJ _)|(dsimp only;split<;>exact aJ _)
   cases x1 with
   |ok v w1=>
    obtain⟨v',W1,h1,⟨rfl,h2⟩,h3,h4⟩:=hr;simp only at h1 h4;subst h1
    have h5:=SR.acts (P:=P) (Q:=Q) (cs:=cs) (K:=K) (fn:=fr.fn) hQ (hs.set (hfr.todo' (t:=(v.map Item.code).toList++k) (by
     intro i hi;rcases List.mem_append.1 hi with hi|hi
     .cases v with
      |none=>cases hi
      |some c=>simp at hi;subst hi;exact h2 c rfl
     .exact hk i hi)) rfl) (.inl hm) h3 h4
    have e:((v.map Item.code).toList++k).map (ql f)=(v.map Item.code).toList++k.map (ql f):=by
     cases v<;>simp[ql]
    have e2:ic f { fr with todo:=(v.map Item.code).toList++k }= { ic f fr with todo:=(v.map Item.code).toList++k.map (ql f) }:=by
     rw[<-e];rfl
    rw[e2]at h5;exact h5
   |halt hh w1=>
    obtain⟨hb,hd⟩:=hr;cases hh with
    |panic v=>exact SR.falls _ hs hd
    |_=>exact .inr trivial
  |beginRound=>
   unfold stepG.exec;simp only[hT,ht,aC,ql];refine zC hQ hF hR.inj ha hs hm ?_
   cases hro:fr.roundOf with
   |none=>exact .bad trivial
   |some l=>
    have wS:(ic f fr).roundOf=some (f l):=by show fr.roundOf.map f=_;rw[hro];rfl
    rw[wS];exact(wm l (hfr.round l hro)).dL λ_=>.ret rfl
  |call _ _ _ _=>exact hi.elim
  |extern _ _=>exact hi.elim
  |code c=>
   have hc:codeOk P F c=true:=(hF.code c).symm.trans hi;cases c with
   |skip=>
    unfold stepG.exec;simp only[hT,ht,aC,ql];exact to k hk
   |label _=>
    unfold stepG.exec;simp only[hT,ht,aC,ql];exact to k hk
   |seq a b=>
    unfold stepG.exec;simp only[hT,ht,aC,ql];simp only[codeOk,bB, <-hF.code]at hc;exact to (.code a:: .code b::k) (cons hc.1 (cons hc.2 hk))
   |block id b=>
    unfold stepG.exec;simp only[hT,ht,aC,ql];simp only[codeOk, <-hF.code]at hc;exact to (.code b:: .inBlock id::k) (cons hc (cons trivial hk))
   |loop b=>
    unfold stepG.exec;simp only[hT,ht,aC,ql];simp only[codeOk, <-hF.code]at hc;exact to (.code b:: .inLoop b::k) (cons hc (cons hc hk))
   |scope b=>
    unfold stepG.exec;simp only[hT,ht,aC,ql];simp only[codeOk, <-hF.code]at hc;exact to (.code b:: .inScope b::k) (cons hc (cons hc hk))
   |goto l=>cases hc
   |refuse s=>
    unfold stepG.exec;simp only[hT,ht,aC,ql];exact .inr trivial
   |cond c a b=>
    unfold stepG.exec;simp only[hT,ht,aC,ql];simp only[codeOk,bB, <-hF.code]at hc;obtain⟨e1,e2⟩:=oq hR hfr.vsr hc.1.1;rw[e1];cases fr.eval c with
    |bool t=>
     rw[jZ];exact to (.code (if t then a else b)::k) (cons (by cases t;exact hc.2;exact hc.1.2) hk)
    |_=>exact .inr trivial
   |ret=>
    unfold stepG.exec;simp only[hT,ht,aC,ql];cases hro:fr.roundOf with
    |none=>
     have wS:(ic f fr).roundOf=none:=by show fr.roundOf.map f=none;rw[hro];rfl
     simp only[hro,wS,if_true];have h1:=SR.quiet (P:=P) (Q:=Q) (cs:=cs) (K:=K) ha (hs.set (fr':={ fr with todo:=.code .ret::k,mode:=.returning,roundOf:=none }) ⟨hfr.fn,hfr.tmps,hall,hfr.defers,hfr.kind,(by intro l hl;cases hl)⟩ hro.symm) (.inr rfl);exact h1
    |some l=>
     have wS:(ic f fr).roundOf=some (f l):=by show fr.roundOf.map f=_;rw[hro];rfl
     simp only[hro,wS];have hr:=(lC (P:=P) (F:=F) (f:=f) l (hfr.round l hro) (jump:=some .ret) (by intro c hc;cases hc;exact hi)).BI hQ hR.inj w W #[] #[] ha;generalize Sem.runT P (Instr.endRound l (some .ret)) w #[]=x at hr;generalize Sem.runT Q (Instr.endRound (f l) (some .ret)) W #[]=y at hr;obtain⟨x1,x2⟩:=x;obtain⟨y1,y2⟩:=y;rcases hr with ho|hr
     .refine SR.out ho ?_
      try rw[kM]
      cases x1<;>first|exact aJ _|exact jO .. |(rename_i hh _;cases hh<;>exact aJ _)|(dsimp only;split<;>exact aJ _)
     cases x1 with
     |ok v w1=>
      obtain⟨v',W1,h1,h2,h3,h4⟩:=hr;simp only at h1 h4;subst h1;cases up with
      |nil=>exact absurd (hs.2.symm.trans hro) (by simp)
      |cons g up=>exact ou hQ ma mb hfr hs.2.1 hs.2.2 h2 h3 h4
     |halt _ _=>exact .inr trivial
   |exit id=>
    unfold stepG.exec;simp only[hT,ht,aC,ql];rw[Ci];cases he:exitTo id k with
    |some k'=>
     simp only[ay,Option.elim_some];exact to k' λj hj=>hk j (Cj he j hj)
    |none=>
     simp only[Option.map_none,Option.elim_none];cases hro:fr.roundOf with
     |none=>
      have wS:(ic f fr).roundOf=none:=by show fr.roundOf.map f=none;rw[hro];rfl
      simp only[hro,wS,if_true];exact .inr trivial
     |some l=>
      have wS:(ic f fr).roundOf=some (f l):=by show fr.roundOf.map f=_;rw[hro];rfl
      simp only[hro,wS];have hr:=(lC (P:=P) (F:=F) (f:=f) l (hfr.round l hro) (jump:=some (.exit id)) (by intro c hc;cases hc;exact hi)).BI hQ hR.inj w W #[] #[] ha;generalize Sem.runT P (Instr.endRound l (some (.exit id))) w #[]=x at hr;generalize Sem.runT Q (Instr.endRound (f l) (some (.exit id))) W #[]=y at hr;obtain⟨x1,x2⟩:=x;obtain⟨y1,y2⟩:=y;rcases hr with ho|hr
      .refine SR.out ho ?_
       try rw[kM]
       cases x1<;>first|exact aJ _|exact jO .. |(rename_i hh _;cases hh<;>exact aJ _)|(dsimp only;split<;>exact aJ _)
      cases x1 with
      |ok v w1=>
       obtain⟨v',W1,h1,h2,h3,h4⟩:=hr;simp only at h1 h4;subst h1;cases up with
       |nil=>exact absurd (hs.2.symm.trans hro) (by simp)
       |cons g up=>exact ou hQ ma mb hfr hs.2.1 hs.2.2 h2 h3 h4
      |halt _ _=>exact .inr trivial
   |region id ops draw=>
    unfold stepG.exec;simp only[hT,ht,aC,ql];simp only[codeOk]at hc;cases draw with
    |false=>exact to (.inRegion ops (List.range ops.size)::k) (cons hc hk)
    |true=>
     simp only[Bool.not_true,bC,if_false];have hr:=(lu (P:=P) (F:=F) (f:=f) (.order fr.fn id)).BI hQ hR.inj w W #[] #[] ha;rw[<-Sem.runT_fst P _ w #[], <-Sem.runT_fst Q _ W #[]];have hfn:(ic f fr).fn=fr.fn:=rfl;rw[hfn];generalize Sem.runT P (choose (.order fr.fn id)) w #[]=x at hr;generalize Sem.runT Q (choose (.order fr.fn id)) W #[]=y at hr;obtain⟨x1,x2⟩:=x;obtain⟨y1,y2⟩:=y;rcases hr with ho|hr
     .refine SR.out ho ?_
      try rw[kM]
      cases x1<;>first|exact aJ _|exact jO .. |(rename_i hh _;cases hh<;>exact aJ _)|(dsimp only;split<;>exact aJ _)
     cases x1 with
     |ok v w1=>
      obtain⟨v',W1,h1,rfl,h3,h4⟩:=hr;simp only at h1 h4;subst h1;refine .inr <| .inr ⟨_,up,_,W1,#[],rfl,hs.set (hfr.todo' (t:=.inRegion ops (Region.schedule (P.follows .mixedOrders) ops v)::k) (cons hc hk)) rfl,.inl hm,.inl rfl,?_,h3,L9 w1⟩;have hfo:Q.follows .mixedOrders=P.follows .mixedOrders:=by obtain⟨_,rfl,_⟩:=hQ;rfl
      rw[hfo];rfl
     |halt _ _=>exact .inr trivial
   |rangeFunc x ps a b=>
    unfold stepG.exec;simp only[hT,ht,aC,ql];simp only[codeOk,bB, <-hF.code]at hc;have hr:=(xX (P:=P) (F:=F) (f:=f) hfr.fn hfr.tmps ps hc.1.2 hc.2 (ar:=fr.roundOf) hfr.round).BI hQ hR.inj w W #[] #[] ha;have hfn:(ic f fr).fn=fr.fn:=rfl;have htm:(ic f fr).tmps=fr.tmps.map (rv f):=rfl;have hro:(ic f fr).roundOf=fr.roundOf.map f:=rfl;rw[hfn,htm,hro];generalize Sem.runT P (Instr.enterLoop fr.fn fr.tmps ps a b fr.roundOf) w #[]=x at hr;generalize Sem.runT Q (Instr.enterLoop fr.fn (fr.tmps.map (rv f)) ps a b (fr.roundOf.map f)) W #[]=y at hr;obtain⟨x1,x2⟩:=x;obtain⟨y1,y2⟩:=y;rcases hr with ho|hr
    .refine SR.out ho ?_
     try rw[kM]
     cases x1 with
     |ok a w2=>
      refine aS (runT_size (P:=P) _ w2 #[]) (Ie (P:=P) (fr:={ fr with todo:=.inRangeFunc a.1::k,defers:=a.2++fr.defers }) (k:=up++cs) ?_ _ w2);show(fr.kind==CallKind.early)=false;rw[hfr.kind];rfl
     |halt hh _=>exact aJ _
    cases x1 with
    |ok v w1=>
     obtain⟨v',W1,h1,⟨h2a,XA,h2c⟩,h3,h4⟩:=hr;obtain⟨l,mk⟩:=v;simp only at h1 h4 h2a XA h2c;subst h2a;subst h1;refine SR.after hQ ha h3 h4 ?_
     have hd:List.map (rd f) (mk++fr.defers)=List.map (rd f) mk++(ic f fr).defers:=by rw[List.map_append];rfl
     dsimp only;rw[<-hd]
     have hfr2:jM P F { fr with todo:=.inRangeFunc l::k,defers:=mk++fr.defers }:=
      ⟨hfr.fn,hfr.tmps,cons XA hk, λd hd=>(List.mem_append.1 hd).elim (h2c d) (hfr.defers d),hfr.kind,hfr.round⟩
     have hv:=oq (P:=P) (F:=F) (f:=f) hR hfr2.vsr hc.1.1;refine zC (fr:={ fr with todo:=.inRangeFunc l::k,defers:=mk++fr.defers }) hQ hF hR.inj h3.ag (hs.set hfr2 rfl) hm ?_
     refine sJ hF.fit hv ?_
     refine⟨?_, λy hy=>?_⟩
     .simp[Frame.eval,T9]
     .simp[Frame.eval]at hy;subst hy;exact sD.2 ⟨XA,by intro y hy;simp at hy,by intro y hy;simp at hy⟩
    |halt _ _=>exact .inr trivial
theorem Am{γ:Type}{k k':γ->Sem Value}:∀(l:List γ),(∀x∈l,dF P F f (VR F f) (k x) (k' x))->dF P F f (λaS bs=>bs=aS.map (rv f)∧∀a∈aS,vs F a=true) (l.mapM k) (l.mapM k')
 | [],_=>by rw[List.mapM_nil,List.mapM_nil];exact .ret ⟨rfl,by simp⟩
 |x::l,h=>by
  rw[List.mapM_cons,List.mapM_cons];refine(h x (aP ..)).bind λa b hab=>?_
  refine(Am l λy hy=>h y (aQ _ hy)).bind λaS bs hs=>?_
  refine .ret ⟨by rw[hab.1,hs.1];rfl, λy hy=>?_⟩;rcases bD.1 hy with rfl|hy
  .exact hab.2
  .exact hs.2 y hy
theorem Ma{t:Array Value}(ht:VS F t)(i:Nat):VR F f (t.getD i undef) ((t.map (rv f)).getD i undef):=by
 rw[aA,aA,aG];cases h:t[i]? with
 |none=>exact⟨by simp,oQ⟩
 |some v=>exact⟨rfl,ht v (aZ h)⟩
theorem wT(hR:Rn P f)(fn:Func){t:Array Value}(ht:VS F t):dF P F f (VR F f) (results fn t) (results fn (t.map (rv f))):=by
 unfold results;refine dF.bind (R:=jf F f) ?_ ?_
 .rw[Array.mapM_eq_mapM_toList,Array.mapM_eq_mapM_toList];refine dF.PY (Am _ λr _=>?_) λaS bs h=>?_
  .cases r with
   |tmp i=>exact .ret (Ma ht i)
   |cell a i=>exact(Es (Ma ht a)).bind λx y hxy=>by obtain⟨rfl,hx⟩:=hxy;exact BL i x hx
  .obtain⟨h1,h2⟩:=h;refine .ret ⟨by rw[h1];simp, λx hx=>h2 x (by simpa using hx)⟩
 .intro aS bs h;refine .ret ?_
  obtain⟨rfl,h2⟩:=h
  by_cases hz:aS.size=1
  .rw[dif_pos hz,dif_pos (by simpa using hz)];exact⟨by simp,h2 _ (Array.getElem_mem _)⟩
  .rw[dif_neg hz,dif_neg (by simpa using hz)];exact VR.tuple ⟨rfl,h2⟩
theorem Kc(hQ:Alike P Q)(hF:kL P F)(hR:Rn P f)(ha:Ag F f w W)(ma mb:Bool){fr:Frame}{up:List Frame}(hs:tQ P F fr up)(hm:fr.mode=.returning)(hnl:up= []->fr.defers≠ []):
 SR P Q F f cs K w W (unwind P ma fr (up++cs) none w) (unwind Q mb (ic f fr) (up.map (ic f)++K) none W):=by
 have hfr:=hs.top;have hD:(ic f fr).defers=fr.defers.map (rd f):=rfl;have hM:(ic f fr).mode=fr.mode:=rfl;have hfn:(ic f fr).fn=fr.fn:=rfl;have htm:(ic f fr).tmps=fr.tmps.map (rv f):=rfl;cases hd:fr.defers with
 |cons d ds=>
  obtain⟨r,rfl,hr⟩:=hfr.defers d (by rw[hd];exact aP ..);have hds:∀d∈ds,∃r,d=Hz r∧F.A r=true:= λx hx=>hfr.defers x (by rw[hd];exact aQ _ hx)
  unfold unwind;have e0:rd f (Hz r)=Hz (f r):=by simp[Hz,rd]
  simp only[hD,hd,aC,e0,hfn];simp only[Hz];have h:=(tT (P:=P) (F:=F) (f:=f) r hr).BI hQ hR.inj w W #[] #[] ha;generalize Sem.runT P (Instr.takeDeferred r) w #[]=x at h;generalize Sem.runT Q (Instr.takeDeferred (f r)) W #[]=y at h;obtain⟨x1,x2⟩:=x;obtain⟨y1,y2⟩:=y;rcases h with ho|h
  .refine SR.out ho ?_
   try rw[kM]
   cases x1<;>first|exact aJ _|exact jO .. |(rename_i hh _;cases hh<;>exact aJ _)|(dsimp only;split<;>exact aJ _)
  cases x1 with
  |ok v w1=>
   obtain⟨v',W1,h1,⟨rfl,rfl⟩,h3,h4⟩:=h;simp only at h1 h4;subst h1;exact SR.acts (P:=P) (Q:=Q) (cs:=cs) (K:=K) (fn:=fr.fn) hQ (hs.set (fr':={ fr with defers:=ds }) ⟨hfr.fn,hfr.tmps,hfr.todo,hds,hfr.kind,hfr.round⟩ rfl) (.inr hm) h3 h4
  |halt _ _=>exact .inr trivial
 |nil=>
  cases up with
  |nil=>exact absurd hd (hnl rfl)
  |cons g up=>
   obtain⟨fn,c,Uv,_⟩:=hF.fit.body fr.fn hfr.fn;unfold unwind;obtain⟨hh,hg1,hg2⟩:=hQ.get fr.fn;obtain⟨bb,hb2,_⟩:=hg2 fn;have hfq:Q.funcs[fr.fn]?=some { fn with body:=bb }:=by rw[hg1,Uv];simp[hb2]
   have hrs:∀t,results { fn with body:=bb } t=results fn t:= λ_=>rfl
   simp only[hD,hd,List.map_nil,hM,hm,hfn,htm,Uv,hfq,hrs];have h:=(wT (P:=P) (F:=F) (f:=f) hR fn hfr.tmps).BI hQ hR.inj w W #[] #[] ha;generalize Sem.runT P (results fn fr.tmps) w #[]=x at h;generalize Sem.runT Q (results fn (fr.tmps.map (rv f))) W #[]=y at h;obtain⟨x1,x2⟩:=x;obtain⟨y1,y2⟩:=y;rcases h with ho|h
   .refine SR.out ho ?_
    try rw[kM]
    cases x1<;>first|exact aJ _|exact jO .. |(rename_i hh _;cases hh<;>exact aJ _)|(dsimp only;split<;>exact aJ _)
   cases x1 with
   |ok v w1=>
    obtain⟨v',W1,h1,h2,h3,h4⟩:=h;simp only at h1 h4;subst h1;exact ou hQ ma mb hfr hs.2.1 hs.2.2 h2 h3 h4
   |halt hh w1=>
    cases hh<;>exact .inr trivial
theorem Qo(hQ:Alike P Q)(hF:kL P F)(hR:Rn P f)(ha:Ag F f w W)(ma mb:Bool){fr:Frame}{up:List Frame}(hs:tQ P F fr up)(hm:fr.mode=.run∨fr.mode=.returning∧(up= []->fr.defers≠ [])):
 SR P Q F f cs K w W (stepG P ma (G fr (up++cs)) w) (stepG Q mb (G (ic f fr) (up.map (ic f)++K)) W):=by
 unfold stepG G;have h1:(ic f fr).mode=fr.mode:=rfl;rcases hm with hm|⟨hm,hn⟩
 .simp only[hm,h1];exact Qn hQ hF hR ha ma mb hs hm
 .simp only[hm,h1];exact Kc hQ hF hR ha ma mb hs hm hn
def SR1(P:Program)(F:Fit)(f:Nat->Nat)(cs K:List Frame)(w W:World)(s S:GStep):Prop:=
 Out F w (gw s)∨match s with
 | .ended .. =>True
 | .go g w1 es=>PS F cs g w1∨∃qh wR W1 es',g=G qh (wR++cs)∧tQ P F qh wR∧(qh.mode=.run∨qh.mode=.returning)∧
     S=.go (G (ic f qh) (wR.map (ic f)++K)) W1 es'∧Mv F f w W w1 W1∧zm F f w1 #[] #[] es es'
 |_=>False
theorem SR.one(hF:kL P F){s S:GStep}(h:SR P P F f cs K w W s S):SR1 P F f cs K w W s S:=by
 rcases h with h|h
 .exact .inl h
 refine .inr ?_
 cases s with
 |go g w1 es=>
  rcases h with h|⟨qh,wR,X,W1,es',a1,a2,a3,a4,a5,a6,a7⟩
  .exact .inl h
  .refine .inr ⟨qh,wR,W1,es',a1,a2,a3,?_,a6,a7⟩;rcases a4 with rfl|⟨g,aS,hg,_,_,_,rfl,rfl⟩
   .exact a5
   .rw[<-zA hF hg aS];exact a5
 |ended _ _ _=>exact trivial
 |_=>exact h.elim
end
end
end Par
section
def Go.World.tp(w:Go.World)(τ:Nat->Go.Question->Nat):Go.World:={ w with tape:=τ }
namespace Par
open Go Go.Conc
variable [Sh]
@[simp] theorem ab5 (w:World) (τ:Nat->Question->Nat):(w.tp τ).drawn=w.drawn:=rfl
@[simp] theorem al6 (w:World) (τ:Nat->Question->Nat):(w.tp τ).heap=w.heap:=rfl
@[simp] theorem as5 (w:World) (τ σ:Nat->Question->Nat):(w.tp τ).tp σ=w.tp σ:=rfl
def Tps(w w1:World)(τ:Nat->Question->Nat):Prop:=∀j q,w.drawn<=j->j<w1.drawn->τ j q=w.tape j q
def ab6(P:Program){α:Type}(m:Sem α)(w:World)(es:Array Event):Prop:=
 ∀a w1 es1,m.runT P w es=(.ok a w1,es1)->w.drawn<=w1.drawn∧∀τ,Tps w w1 τ->m.runT P (w.tp τ) es=(.ok a (w1.tp τ),es1)
section
variable {P:Program} {F:Fit} {f:Nat->Nat} {α β:Type} {R:α->β->Prop}
theorem dF.loc{n0:Nat}(hn:∀b,n0<=b->F.A b=true)(hf:∀a b,Sh.lk a=false->Sh.hol b=false->f a=f b->a=b){m:Sem α}{m':Sem β}(h:dF P F f R m m'):
 ∀(w W:World)(es:Array Event),n0<=w.heap.size->Ag F f w W->ab6 P m w es:=by
 induction h with
 |pure h=>
  intro w W es h0 ha a w1 es1 h;simp only[Sem.runT]at h;cases h;exact⟨aJ _, λτ _=>rfl⟩
 | @load a k k' hA h ih=>
   intro w W es h0 ha b w1 es1 h
   have e1:∀w:World,Sem.runT P (.load .plain a k) w es=match w.cell? a with
    |some v=>(k v).runT P w (es.push ⟨.cell a,false,Mode.plain==Mode.atomic⟩)
    |none=>match w.farLoad P a (Mode.plain==Mode.atomic)with
     | .ok (v,touched)=>(k v).runT P w (es++touched.toArray.map (⟨.cell ·,false,Mode.plain==Mode.atomic⟩))
     | .error h=>(.halt h w,es):= λw=>by
     simp only[Sem.runT];cases w.cell? a with
     |some v=>rfl
     |none=>dsimp only;cases World.farLoad P w a (Mode.plain==Mode.atomic)<;>rfl
   rw[e1]at h;cases hc:w.cell? a with
   |none=>
    obtain⟨x,hx,hb⟩:=(ha.wr.noCell a hA "").2 P (Mode.plain==Mode.atomic);simp only[hc,hx]at h;cases h
   |some v=>
    obtain⟨h1,h2⟩:=ha.wr.cell hA hc;simp only[hc]at h;obtain⟨i1,i2⟩:=ih v h2 w W _ h0 ha b w1 es1 h;refine⟨i1, λτ ht=>?_⟩;rw[e1];have hc':(w.tp τ).cell? a=some v:=hc;simp only[hc'];exact i2 τ ht
 | @store a v k k' hA hv h ih=>
   intro w W es h0 ha b w1 es1 h
   have hs:(∃c,v=.agg c∨v=.tuple c)∨((∀c,v≠ .agg c∧v≠ .tuple c)):=by
    cases v<;>first|(refine .inr λc=>⟨?_,?_⟩<;>(intro h;cases h;done))|exact .inl ⟨_,.inl rfl⟩|exact .inl ⟨_,.inr rfl⟩
   rcases hs with⟨c,rfl|rfl⟩|hs
   .simp only[Sem.runT]at h;cases h
   .simp only[Sem.runT]at h;cases h
   .have e1:∀(w:World)(es:Array Event),Sem.runT P (.store .plain a v k) w es=match w.cell? a with
     |some _=>if w.frozen? a then(.halt (.unsupported (.unsafePointer "a write to bytes that a string shares")) w,es)else k.runT P (w.setCell a v) (es.push ⟨.cell a,true,false⟩)
     |none=>match w.farStore P a v false with
      | .ok (w,touched)=>k.runT P w (es++touched.toArray.map (⟨.cell ·,true,false⟩))
      | .error h=>(.halt h w,es):=by
     intro w es;cases v<;>first|rfl|exact absurd rfl (hs _).1|exact absurd rfl (hs _).2
    rw[e1]at h;cases hc:w.cell? a with
    |none=>
     obtain⟨x,hx,hb⟩:=ha.wr.LX a hA P v false;simp only[hc,hx]at h;cases h
    |some x=>
     simp only[hc]at h;cases hz:w.frozen? a with
     |true=>simp only[hz,if_true]at h;cases h
     |false=>
      simp only[hz,if_false,bC]at h;obtain⟨hm,_⟩:=ha.store hf hA hc hz hv;obtain⟨i1,i2⟩:=ih _ _ _ (by simpa[World.setCell]using h0) hm.ag b w1 es1 h;refine⟨i1, λτ ht=>?_⟩;rw[e1];have hc':(w.tp τ).cell? a=some x:=hc;have hz':(w.tp τ).frozen? a=false:=hz;simp only[hc',hz',if_false,bC];exact i2 τ ht
 | @new o k k' ho h ih=>
   intro w W es h0 ha b w1 es1 h;simp only[Sem.runT]at h
   have hm:Mv F f w W { w with heap:=w.heap.push o } { W with heap:=W.heap.push (ro f o) }:=ha.new (by
    cases o with
    |cells c e fr=>exact .inr (.inl ⟨ha.GV _ (aJ _),c,e,fr,fr,rfl,ho,rfl, λi _ h1 h2=>⟨h1,h2⟩⟩)
    |_=>exact .inl ⟨ha.GV _ (aJ _),ho,rfl,rfl⟩)
   obtain⟨i1,i2⟩:=ih _ (hn _ h0) (ha.GV _ (aJ _)) _ _ _ (by simp only[Array.size_push];omega) hm.ag b w1 es1 h;exact⟨i1, λτ ht=>i2 τ ht⟩
 | @mQ c e k0 k0' k k' ho e1 e2 h ih=>
   intro w W es h0 ha b w1 es1 h
   have hsh:∀(w:World)(c:Array Value),World.shape? { w with heap:=w.heap.push (.cells c e (0,0)) } w.heap.size=some (e,c.size):=by
    intro w c;simp[World.shape?]
   have hm:Mv F f w W { w with heap:=w.heap.push (.cells c e (c.size,c.size+1)) } { W with heap:=W.heap.push (.cells (c.map (rv f)) e (c.size,c.size+1)) }:=
    ha.new (.inr (.inl ⟨ha.GV _ (aJ _),c,e,_,(c.size,c.size+1),rfl,ho,rfl, λi _ h1 h2=>⟨h1,h2⟩⟩))
   have e3:∀w:World,Sem.runT P (.new (.cells c e (0,0)) λr=>.shape r (k0 r)) w es=(k w.heap.size).runT P { w with heap:=w.heap.push (.cells c e (c.size,c.size+1)) } es:=by
    intro w;simp only[Sem.runT];rw[hsh w c,e1];simp only[Sem.runT];rw[uq]
   rw[e3]at h;obtain⟨i1,i2⟩:=ih _ (hn _ h0) (ha.GV _ (aJ _)) _ _ _ (by simp only[Array.size_push];omega) hm.ag b w1 es1 h;refine⟨i1, λτ ht=>?_⟩;rw[e3];exact i2 τ ht
 | @shape r k k' hA h hl ih ihl=>
   intro w W es h0 ha b w1 es1 h;simp only[Sem.runT]at h
   by_cases hk:Sh.lk r=true∧∃c fr,w.heap[r]?=some (.cells c Sh.bad fr)
   .obtain⟨h3,c,fr,h4⟩:=hk;have e1:w.shape? r=some (Sh.bad,c.size):=by unfold World.shape?;rw[h4]
    rw[e1]at h;obtain⟨i1,i2⟩:=ihl h3 c.size (0,0) w W es h0 ha b w1 es1 h;refine⟨i1, λτ ht=>?_⟩;have e2:(w.tp τ).shape? r=some (Sh.bad,c.size):=e1;simp only[Sem.runT];rw[e2];exact i2 τ ht
   .obtain⟨i1,i2⟩:=ih _ (λh3=>by
     rcases ha.wr.Fw hA h3 with hr|⟨c,fr,hr⟩
     .unfold World.shape?;rw[hr]
     .exact absurd ⟨h3,c,fr,hr⟩ hk) w W es h0 ha b w1 es1 h
    exact⟨i1, λτ ht=>i2 τ ht⟩
 | @BG r k m' hA hl=>
   intro w W es h0 ha b w1 es1 h;rcases ha.wr.Fw hA hl with hr|⟨c,fr,hr⟩<;>(simp only[Sem.runT,hr]at h;cases h)
 | @getObj r k k' hA h ih=>
   intro w W es h0 ha b w1 es1 h;cases hr:w.heap[r]? with
   |none=>simp only[Sem.runT,hr]at h;cases h
   |some o=>
    by_cases hc:isCells o=true
    .cases o<;>first|(simp only[Sem.runT,hr]at h;cases h;done)|cases hc
    .have hc':isCells o=false:=by simpa using hc
     rcases ha.wr.blk r o hA hr with⟨hlk,hS,_,hO⟩|⟨_,c,e,fr,fr',rfl,_⟩|⟨_,c,fr,C,e',fr',rfl,_⟩
     .rw[sF k es hr hc']at h;obtain⟨i1,i2⟩:=ih o hS hc' hlk w W _ h0 ha b w1 es1 h;refine⟨i1, λτ ht=>?_⟩;rw[sF (w:=w.tp τ) k es hr hc'];exact i2 τ ht
     .cases hc'
     .cases hc'
 | @setObj r o k k' hA ho hc h ih=>
   intro w W es h0 ha b w1 es1 h;cases hr:w.heap[r]? with
   |none=>simp only[Sem.runT,hr]at h;cases h
   |some x=>
    by_cases D9:isCells x=true
    .cases x<;>first|(simp only[Sem.runT,hr]at h;cases h;done)|cases D9
    .have Ea:isCells x=false:=by simpa using D9
     rw[oU o k es hr Ea]at h;have hm:=ha.setObj hf hA hr Ea ho hc;obtain⟨i1,i2⟩:=ih _ _ _ (by simpa[World.setCell]using h0) hm.ag b w1 es1 h;refine⟨i1, λτ ht=>?_⟩;rw[oU (w:=w.tp τ) o k es hr Ea];exact i2 τ ht
 | @choose q k k' h ih=>
   intro w W es h0 ha b w1 es1 h;simp only[Sem.runT]at h⊢
   by_cases hq:q.forced=true
   .simp only[hq,if_true]at h⊢;exact ih 0 w W es h0 ha b w1 es1 h
   .simp only[hq,if_false,bC]at h⊢
    have hag:Ag F f { w with drawn:=w.drawn+1 } { W with drawn:=W.drawn+1 }:=
     ⟨⟨ha.wr.lt,ha.wr.blk⟩, λj q'=>by have :=ha.tape (1+j) q';simpa[Nat.add_assoc]using this,ha.next,ha.GV,ha.hol⟩
    obtain⟨i1,i2⟩:=ih _ { w with drawn:=w.drawn+1 } _ es h0 hag b w1 es1 h;have i1':w.drawn+1<=w1.drawn:=i1;refine⟨by omega, λτ ht=>?_⟩;have e:τ w.drawn q=w.tape w.drawn q:=ht _ _ (aJ _) (by omega);have e':(w.tp τ).tape (w.tp τ).drawn q=w.tape w.drawn q:=e;rw[e'];exact i2 τ λj q' h1 h2=>ht j q' (by simp only at h1;omega) h2
 |program e h ih=>
  intro w W es h0 ha b w1 es1 h;simp only[Sem.runT]at h;obtain⟨i1,i2⟩:=ih w W es h0 ha b w1 es1 h;exact⟨i1, λτ ht=>i2 τ ht⟩
 |noRoom h ih=>
  intro w W es h0 ha b w1 es1 h;simp only[Sem.runT]at h;obtain⟨i1,i2⟩:=ih w W _ h0 ha b w1 es1 h;exact⟨i1, λτ ht=>i2 τ ht⟩
 |lW h=>
  intro w W es h0 ha b w1 es1 hr;obtain⟨x,w',es1,h1,h2⟩:=h w es;rw[h1]at hr;cases hr
end
end Par
end
namespace Par
open Go Go.Conc
section
variable [Sh]
def Panics(g:Goroutine):Prop:=∃ch,g.frame.mode=.panicking ch
def GL(s:World->GStep)(w:World):Prop:=
 ∀g w1 es,s w=.go g w1 es->¬Panics g->w.drawn<=w1.drawn∧∀τ,Tps w w1 τ->s (w.tp τ)=.go g (w1.tp τ) es
section
variable {P:Program} {F:Fit} {f:Nat->Nat} {w W:World} {cs:List Frame}
theorem GL.quiet(g:Goroutine):GL (λw=>.go g w #[]) w:=by
 intro g' w1 es h _;cases h;exact⟨aJ _, λ_ _=>rfl⟩
theorem GL.ended(o:Outcome):GL (λw=>.ended o w) w:=by
 intro g' w1 es h _;cases h
theorem GL.run{α:Type}{m:Sem α}(fn:FuncId)(K:Result α->GStep)(hl:ab6 P m w #[])
 (hk:∀a w2 es2,m.runT P w #[]=(.ok a w2,es2)->∃g',∀w3,K (.ok a w3)=.go g' w3 #[])
 (hh:∀h w2 g w3 es,K (.halt h w2)=.go g w3 es->Panics g):GL (λw=>GStep.after (seen P fn (m.runT P w #[]).2) (K (m.runT P w #[]).1)) w:=by
 intro g w1 es h hp;dsimp only at h;generalize hx:m.runT P w #[]=x at h;obtain⟨x1,x2⟩:=x;cases x1 with
 |ok a w2=>
  obtain⟨g',hg⟩:=hk a w2 x2 hx;obtain⟨i1,i2⟩:=hl a w2 x2 hx;simp only[hg,GStep.after]at h;cases h;refine⟨i1, λτ ht=>?_⟩;simp only[i2 τ ht,hg,GStep.after]
 |halt y w2=>
  exfalso;dsimp only at h;cases hk:K (.halt y w2)with
  |go g2 w3 es3=>
   rw[hk]at h;simp only[GStep.after]at h;cases h;exact hp (hh _ _ _ _ _ hk)
  |_=>rw[hk]at h;simp[GStep.after]at h
theorem zD(hn:∀b,w.heap.size<=b->F.A b=true)(hi:∀a b,Sh.lk a=false->Sh.hol b=false->f a=f b->a=b)(ha:Ag F f w W){fr:Frame}(hfr:jM P F fr){m m':Sem Next}(h:dF P F f (NR F f) m m'):
 GL (λw=>stepG.apply P true fr cs none m w) w:=by
 have hl:=h.loc hn hi w W #[] (aJ _) ha;have hr:=h.run hi w W #[] #[] ha;have hk:(fr.kind==CallKind.early)=false:=by rw[hfr.kind];rfl
 intro g w1 es hgo hp;unfold stepG.apply at hgo;simp only[if_true,hk,bC,if_false]at hgo;generalize hx:m.runT P w #[]=x at hr hgo;generalize m'.runT P W #[]=y at hr;obtain⟨x1,x2⟩:=x;rcases hr with⟨b,hb1,hb2,hb3⟩|hr
 .rw[hn b hb1]at hb3;cases hb3
 cases x1 with
 |ok a w2=>
  obtain⟨b,W1,h1,h2,h3,h4⟩:=hr;obtain⟨i1,i2⟩:=hl a w2 x2 hx;cases a with
  |value v=>
   simp only[GStep.after]at hgo;cases hgo;refine⟨i1, λτ ht=>?_⟩;unfold stepG.apply;simp only[if_true,hk,bC,if_false,i2 τ ht];rfl
  |skip=>
   simp only[GStep.after]at hgo;cases hgo;refine⟨i1, λτ ht=>?_⟩;unfold stepG.apply;simp only[if_true,hk,bC,if_false,i2 τ ht];rfl
  |enter g aS=>
   simp only[GStep.after]at hgo;cases hgo;refine⟨i1, λτ ht=>?_⟩;unfold stepG.apply;simp only[if_true,hk,bC,if_false,i2 τ ht];rfl
  |round l g t x y=>
   simp only[GStep.after]at hgo;cases hgo;refine⟨i1, λτ ht=>?_⟩;unfold stepG.apply;simp only[if_true,hk,bC,if_false,i2 τ ht];rfl
  |_=>exact h2.elim
 |halt hh w2=>
  exfalso;obtain⟨hb,hd⟩:=hr
  have pn:∀v,Panics (G (fr.raise v) cs):=by
   intro v;unfold Panics Frame.raise G;cases fr.mode<;>exact⟨_,rfl⟩
  cases hh with
  |panic v=>
   simp only[GStep.after]at hgo;cases hgo;exact hp (pn _)
  |stuck s=>simp[GStep.after]at hgo
  |unsupported u=>cases u<;>first|exact hb.elim|(simp[GStep.after]at hgo;done)
  |_=>exact hb.elim
theorem oz{ma:Bool}{fr g:Frame}{k:List Frame}(hk:fr.kind=.normal)(v:Value):∃g',∀w3,doReturn P ma fr (g::k) none v w3=.go g' w3 #[]:=by
 refine⟨G (g.finish v) k, λw3=>?_⟩;unfold doReturn;simp only[hk];rfl
theorem Qp(hn:∀b,w.heap.size<=b->F.A b=true)(hF:kL P F)(hR:Rn P f)(ha:Ag F f w W)(ma:Bool){fr:Frame}{up:List Frame}(hs:tQ P F fr up):
 GL (λw=>stepG.exec P ma true fr (up++cs) none w) w:=by
 have hfr:=hs.top;cases ht:fr.todo with
 |nil=>
  unfold stepG.exec;simp only[ht];cases hro:fr.roundOf with
  |none=>exact GL.quiet _
  |some l=>
   have hs1:=lC (P:=P) (F:=F) (f:=f) l (hfr.round l hro) (jump:=none) (by intro c hc;cases hc);cases up with
   |nil=>exact absurd (hs.2.symm.trans hro) (by simp)
   |cons g up=>
    refine GL.run fr.fn (λr=>match r with | .ok v w=>doReturn P ma fr (g::(up++cs)) none v w| .halt _ w=>.ended (.stuck "range over a function: no such loop" (fr.pos P)) w) (hs1.loc hn hR.inj w W #[] (aJ _) ha) (λa w2 es2 _=>oz hfr.kind a) (λh w2 g w3 es hx=>by cases hx)
 |cons i k=>
  have hall:=hfr.todo;rw[ht]at hall;have hi:=hall i (aP ..);cases i with
  |inBlock _=>unfold stepG.exec;simp only[ht];exact GL.quiet _
  |inScope _=>unfold stepG.exec;simp only[ht];exact GL.quiet _
  |inLoop c=>unfold stepG.exec;simp only[ht];exact GL.quiet _
  |inRegion ops l=>
   cases l with
   |nil=>unfold stepG.exec;simp only[ht];exact GL.quiet _
   |cons n rest=>
    unfold stepG.exec;simp only[ht];cases hw:((ops[n]?).map (λx=>Region.wanted x (yielded ops fr.tmps))).getD false with
    |false=>simp only[bC,if_false];exact GL.quiet _
    |true=>
     simp only[if_true]
     have ho:∃o,ops[n]?=some o:=by
      cases h:ops[n]? with
      |none=>rw[h]at hw;cases hw
      |some o=>exact⟨o,rfl⟩
     obtain⟨o,ho⟩:=ho;have hop:jg P F o.op=true:=aU.1 hi o (aZ ho);have e1:fr.oper?=some o:=by unfold Frame.oper?;rw[ht];exact ho
     have key:=zD (P:=P) (cs:=up++cs) hn hR.inj ha hfr (Ew (f:=f) hR hF.fit hfr.vsr hop);unfold stepG.oper;simp only[e1]
     cases hx:o.op<;>first
      |(rw[hx]at hop;cases hop;done)
      |(cases fr.roundOf<;>exact key)
  |inRangeFunc l=>unfold stepG.exec;simp only[ht];exact GL.ended _
  |endRangeFunc l=>
   unfold stepG.exec;simp only[ht]
   refine GL.run fr.fn (λr=>match r with | .ok jump w=>.go (G { fr with todo:=(jump.map Item.code).toList++k } (up++cs)) w| .halt (.panic v) w=>.go (G (fr.raise [{ v,recovered:=false }]) (up++cs)) w| .halt _ w=>.ended (.stuck "range over a function: no such loop" (fr.pos P)) w)
    ((Ck (P:=P) (F:=F) (f:=f) l hi).loc hn hR.inj w W #[] (aJ _) ha) (λa w2 es2 _=>⟨_, λw3=>rfl⟩) (λh w2 g w3 es hx=>?_)
   cases h with
   |panic v=>
    cases hx;unfold Panics Frame.raise G;cases fr.mode<;>exact⟨_,rfl⟩
   |_=>cases hx
  |beginRound=>
   unfold stepG.exec;simp only[ht];refine zD (f:=f) (W:=W) hn hR.inj ha hfr (m':=(do(ic f fr).roundOf.elim (stuck "beginRound: no round") Instr.beginRound;pure .skip)) ?_
   cases hro:fr.roundOf with
   |none=>exact .bad trivial
   |some l=>
    have wS:(ic f fr).roundOf=some (f l):=by show fr.roundOf.map f=_;rw[hro];rfl
    rw[wS];exact(wm l (hfr.round l hro)).dL λ_=>.ret rfl
  |call _ _ _ _=>exact az hi
  |extern _ _=>exact az hi
  |code c=>
   have hc:codeOk P F c=true:=(hF.code c).symm.trans hi;cases c with
   |skip=>unfold stepG.exec;simp only[ht];exact GL.quiet _
   |label _=>unfold stepG.exec;simp only[ht];exact GL.quiet _
   |seq a b=>unfold stepG.exec;simp only[ht];exact GL.quiet _
   |block id b=>unfold stepG.exec;simp only[ht];exact GL.quiet _
   |loop b=>unfold stepG.exec;simp only[ht];exact GL.quiet _
   |scope b=>unfold stepG.exec;simp only[ht];exact GL.quiet _
   |goto l=>cases hc
   |refuse s=>unfold stepG.exec;simp only[ht];exact GL.ended _
   |cond c a b=>
    unfold stepG.exec;simp only[ht];cases fr.eval c with
    |bool t=>exact GL.quiet _
    |_=>exact GL.ended _
   |ret=>
    unfold stepG.exec;simp only[ht];cases hro:fr.roundOf with
    |none=>exact GL.quiet _
    |some l=>
     have hs1:=lC (P:=P) (F:=F) (f:=f) l (hfr.round l hro) (jump:=some .ret) (by intro c hc;cases hc;exact hi);cases up with
     |nil=>exact absurd (hs.2.symm.trans hro) (by simp)
     |cons g up=>
      refine GL.run fr.fn (λr=>match r with | .ok v w=>doReturn P ma fr (g::(up++cs)) none v w| .halt _ w=>.ended (.stuck "range over a function: no such loop" (fr.pos P)) w) (hs1.loc hn hR.inj w W #[] (aJ _) ha) (λa w2 es2 _=>oz hfr.kind a) (λh w2 g w3 es hx=>by cases hx)
   |exit id=>
    unfold stepG.exec;simp only[ht];cases he:exitTo id k with
    |some k'=>exact GL.quiet _
    |none=>
     simp only[Option.elim_none];cases hro:fr.roundOf with
     |none=>exact GL.ended _
     |some l=>
      have hs1:=lC (P:=P) (F:=F) (f:=f) l (hfr.round l hro) (jump:=some (.exit id)) (by intro c hc;cases hc;exact hi);cases up with
      |nil=>exact absurd (hs.2.symm.trans hro) (by simp)
      |cons g up=>
       refine GL.run fr.fn (λr=>match r with | .ok v w=>doReturn P ma fr (g::(up++cs)) none v w| .halt _ w=>.ended (.stuck "range over a function: no such loop" (fr.pos P)) w) (hs1.loc hn hR.inj w W #[] (aJ _) ha) (λa w2 es2 _=>oz hfr.kind a) (λh w2 g w3 es hx=>by cases hx)
   |region id ops draw=>
    unfold stepG.exec;simp only[ht];cases draw with
    |false=>exact GL.quiet _
    |true=>
     simp only[Bool.not_true,bC,if_false];have hl:=(lu (P:=P) (F:=F) (f:=f) (.order fr.fn id)).loc hn hR.inj w W #[] (aJ _) ha;intro g w1 es h hp;dsimp only at h;rw[<-Sem.runT_fst P _ w #[]]at h;generalize hx:(choose (.order fr.fn id)).runT P w #[]=x at h;obtain⟨x1,x2⟩:=x;cases x1 with
     |ok a w2=>
      obtain⟨i1,i2⟩:=hl a w2 x2 hx;simp only at h;cases h;refine⟨i1, λτ ht=>?_⟩;dsimp only;rw[<-Sem.runT_fst P _ (w.tp τ) #[],i2 τ ht]
     |halt y w2=>cases h
   |rangeFunc x ps a b=>
    unfold stepG.exec;simp only[ht];simp only[codeOk,bB, <-hF.code]at hc;have hk:∀j∈k,zz P F j:= λj hj=>hall j (aQ _ hj)
    have JI:=xX (P:=P) (F:=F) (f:=f) hfr.fn hfr.tmps ps hc.1.2 hc.2 (ar:=fr.roundOf) hfr.round;have hl:=JI.loc hn hR.inj w W #[] (aJ _) ha;have hr:=JI.run hR.inj w W #[] #[] ha;intro g w1 es h hp;dsimp only at h;generalize hx:Sem.runT P (Instr.enterLoop fr.fn fr.tmps ps a b fr.roundOf) w #[]=x at h hr;generalize Sem.runT P (Instr.enterLoop fr.fn (fr.tmps.map (rv f)) ps a b (fr.roundOf.map f)) W #[]=y at hr;obtain⟨x1,x2⟩:=x;rcases hr with⟨b,hb1,hb2,hb3⟩|hr
    .rw[hn b hb1]at hb3;cases hb3
    cases x1 with
    |halt y w2=>simp[GStep.after]at h
    |ok v w2=>
     obtain⟨v',W2,h1,⟨h2a,XA,h2c⟩,h3,h4⟩:=hr;obtain⟨i1,i2⟩:=hl v w2 x2 hx;obtain⟨l,mk⟩:=v;simp only at XA h2c h
     have hfr2:jM P F { fr with todo:=.inRangeFunc l::k,defers:=mk++fr.defers }:=
      ⟨hfr.fn,hfr.tmps, λj hj=>(bD.1 hj).elim (λe=>e ▸ XA) (hk j), λd hd=>(List.mem_append.1 hd).elim (h2c d) (hfr.defers d),hfr.kind,hfr.round⟩
     have hv:=oq (P:=P) (F:=F) (f:=f) hR hfr2.vsr hc.1.1
     have hargs:jf F f (#[Operand.const (.func (.yield l) #[] #[])].map ({ fr with todo:=.inRangeFunc l::k,defers:=mk++fr.defers }:Frame).eval) #[.func (.yield (f l)) #[] #[]]:=by
      refine⟨?_, λy hy=>?_⟩
      .simp[Frame.eval,T9]
      .simp[Frame.eval]at hy;subst hy;exact sD.2 ⟨XA,by intro y hy;simp at hy,by intro y hy;simp at hy⟩
     have key:=zD (P:=P) (cs:=up++cs) (λb hb=>hn b (by obtain⟨k,hk,_⟩:=h3.size;omega)) hR.inj h3.ag hfr2 (sJ hF.fit hv hargs);generalize hq:stepG.apply P true { fr with todo:=.inRangeFunc l::k,defers:=mk++fr.defers } (up++cs) none _ w2=s2 at h;cases s2 with
     |go g2 w3 es2=>
      simp only[GStep.after]at h;cases h;obtain⟨j1,j2⟩:=key _ _ _ hq hp;refine⟨by omega, λτ ht'=>?_⟩;have t1:Tps w w2 τ:= λj q a b=>ht' j q a (by omega)
      have t2:Tps w2 w1 τ:= λj q a b=>by
       rw[ht' j q (by omega) b,h3.tape]
      dsimp only;simp only[i2 τ t1];exact congrArg (GStep.after (seen P fr.fn x2)) (j2 τ t2)
     |_=>simp[GStep.after]at h
theorem Ke(hn:∀b,w.heap.size<=b->F.A b=true)(hF:kL P F)(hR:Rn P f)(ha:Ag F f w W)(ma:Bool){fr:Frame}{up:List Frame}(hs:tQ P F fr up)(hm:fr.mode=.returning)(hnl:up= []->fr.defers≠ []):
 GL (λw=>unwind P ma fr (up++cs) none w) w:=by
 have hfr:=hs.top;cases hd:fr.defers with
 |cons d ds=>
  obtain⟨r,rfl,hr⟩:=hfr.defers d (by rw[hd];exact aP ..);unfold unwind;simp only[hd,Hz]
  exact GL.run fr.fn (λr=>match r with | .ok calls w=>.go (G { fr with defers:=calls++ds } (up++cs)) w| .halt _ w=>.ended (.stuck "the deferred calls of a range-over-func loop have been taken" (fr.pos P)) w)
   ((tT (P:=P) (F:=F) (f:=f) r hr).loc hn hR.inj w W #[] (aJ _) ha) (λa w2 es2 _=>⟨_, λw3=>rfl⟩) (λh w2 g w3 es hx=>by cases hx)
 |nil=>
  cases up with
  |nil=>exact absurd hd (hnl rfl)
  |cons g up=>
   obtain⟨fn,c,Uv,_⟩:=hF.fit.body fr.fn hfr.fn;unfold unwind;simp only[hd,hm,Uv]
   refine GL.run fr.fn (λr=>match r with | .ok v w=>doReturn P ma fr (g::(up++cs)) none v w| .halt (.stuck s) w=>.ended (.stuck s (fr.pos P)) w| .halt _ w=>.ended (.stuck "return: the result variables cannot be read" (fr.pos P)) w)
    ((wT (P:=P) (F:=F) (f:=f) hR fn hfr.tmps).loc hn hR.inj w W #[] (aJ _) ha) (λa w2 es2 _=>oz hfr.kind a) (λh w2 g w3 es hx=>by cases h<;>cases hx)
theorem Qq(hn:∀b,w.heap.size<=b->F.A b=true)(hF:kL P F)(hR:Rn P f)(ha:Ag F f w W)(ma:Bool){fr:Frame}{up:List Frame}(hs:tQ P F fr up)(hm:fr.mode=.run∨fr.mode=.returning∧(up= []->fr.defers≠ [])):
 GL (λw=>stepG P ma (G fr (up++cs)) w) w:=by
 unfold stepG G;rcases hm with hm|⟨hm,hnl⟩
 .simp only[hm];exact Qp hn hF hR ha ma hs
 .simp only[hm];exact Ke hn hF hR ha ma hs hm hnl
end
end
end Par
namespace Par
open Go Go.Conc Go.ConcM
section
structure fO where
 ro:Nat->Prop
 sy:Nat->Prop
 cl:Nat->Nat->Prop
 mute:Prop:=False
def tV(o O:Option Obj):Prop:=∀c e fr,o=some (.cells c e fr)->∃c':Array Value,O=some (.cells c' e fr)∧c'.size=c.size∧∀(i:Nat)(k:IntKind)(n:Int),c[i]?=some (.int k n)->∃m,c'[i]?=some (.int k m)
theorem tV.refl(o:Option Obj):tV o o:= λc _ _ h=>⟨c,h,rfl, λ_ _ n h=>⟨n,h⟩⟩
theorem tV.trans{a b c:Option Obj}(h:tV a b)(k:tV b c):tV a c:= λx e fr hx=>
 let⟨y,hy,e1,i1⟩:=h x e fr hx
 let⟨z,hz,e2,i2⟩:=k y e fr hy
 ⟨z,hz,e2.trans e1, λi kd n hn=>let⟨m,hm⟩:=i1 i kd n hn;i2 i kd m hm⟩
structure dM(Z:fO)(own:Nat->Prop)(W W1:World):Prop where
 tape:W1.tape=W.tape
 out:W1.output=W.output
 os:OsLater W.os W1.os
 size:W.heap.size<=W1.heap.size
 own:∀b,own b->W1.heap[b]?=W.heap[b]?
 ro:∀b,Z.ro b->W1.heap[b]?=W.heap[b]?
 sy:∀b,Z.sy b->tV W.heap[b]? W1.heap[b]?
 cl:∀b i,Z.cl b i->W1.cell? ⟨b,i,none⟩=W.cell? ⟨b,i,none⟩
structure qK(Z:fO)(own:Nat->Prop)(W W1:World):Prop where
 tape:W1.tape=W.tape
 out:W1.output=W.output
 os:W1.os=W.os
 size:W.heap.size<=W1.heap.size
 rest:∀b,b<W.heap.size->¬own b->¬Z.sy b->W1.heap[b]?=W.heap[b]?
 sy:∀b,Z.sy b->tV W.heap[b]? W1.heap[b]?∧∀i,¬Z.cl b i->W1.cell? ⟨b,i,none⟩=W.cell? ⟨b,i,none⟩
def grow(own:Nat->Prop)(W W1:World):Nat->Prop:= λb=>own b∨(W.heap.size<=b∧b<W1.heap.size)
def NY(Z:fO)(own:Nat->Prop)(e:Event):Prop:=
 ¬Z.mute∧match e.loc with
 | .cell a=>e.sync=false∧(own a.block∨(Z.ro a.block∧e.write=false)∨Z.cl a.block a.off)
 | .obj r=>e.sync=false∧own r
 | .mark m=>m=.noRoom
 |_=>False
inductive Gw(P:Program)(main:Bool)(Z:fO)(Stop:(Nat->Prop)->Goroutine->World->Prop):(Nat->Prop)->Goroutine->World->Prop
 |stop {own:Nat->Prop} {g:Goroutine} {W:World} (h:∀W1,dM Z own W W1->Stop own g W1):Gw P main Z Stop own g W
 |step {own:Nat->Prop} {g:Goroutine} {W:World} (hs:g.status=.running) (g':World->Goroutine) (W':World->World) (es:World->Array Event)
   (h:∀W1,dM Z own W W1->stepG P main g W1=.go (g' W1) (W' W1) (es W1)) (hg:∀W1,dM Z own W W1->qK Z own W1 (W' W1))
   (he:∀W1,dM Z own W W1->∀e∈es W1,NY Z (grow own W1 (W' W1)) e) (hn:∀W1,dM Z own W W1->Gw P main Z Stop (grow own W1 (W' W1)) (g' W1) (W' W1)):Gw P main Z Stop own g W
section
variable {P:Program} {main:Bool} {Z:fO} {Stop:(Nat->Prop)->Goroutine->World->Prop} {own:Nat->Prop} {g:Goroutine} {W:World}
theorem dM.refl(W:World):dM Z own W W:=⟨rfl,rfl,OsLater.refl _,aJ _, λ_ _=>rfl, λ_ _=>rfl, λ_ _=>tV.refl _, λ_ _ _=>rfl⟩
theorem dM.trans{a b c:World}(h:dM Z own a b)(k:dM Z own b c):dM Z own a c:=
 ⟨k.tape.trans h.tape,k.out.trans h.out,h.os.trans k.os,aS h.size k.size, λx hx=>(k.own x hx).trans (h.own x hx), λx hx=>(k.ro x hx).trans (h.ro x hx), λx hx=>(h.sy x hx).trans (k.sy x hx), λx i hx=>(k.cl x i hx).trans (h.cl x i hx)⟩
theorem Gw.xY(hs:g.status=.running)(h:∀W1,dM Z own W W1->∃g' W' es,stepG P main g W1=.go g' W' es∧qK Z own W1 W'∧(∀e∈es,NY Z (grow own W1 W') e)∧Gw P main Z Stop (grow own W1 W') g' W'):Gw P main Z Stop own g W:=by
 classical
 refine .step hs (λW1=>if hr:dM Z own W W1 then(h W1 hr).choose else g) (λW1=>if hr:dM Z own W W1 then(h W1 hr).choose_spec.choose else W1)
  (λW1=>if hr:dM Z own W W1 then(h W1 hr).choose_spec.choose_spec.choose else#[]) ?_ ?_ ?_ ?_
 all_goals
  intro W1 hr;simp only[dif_pos hr]
 .exact(h W1 hr).choose_spec.choose_spec.choose_spec.1
 .exact(h W1 hr).choose_spec.choose_spec.choose_spec.2.1
 .exact(h W1 hr).choose_spec.choose_spec.choose_spec.2.2.1
 .exact(h W1 hr).choose_spec.choose_spec.choose_spec.2.2.2
theorem Gw.not(hs:g.status=.running)(h:¬Gw P main Z Stop own g W):
 ∃W1,dM Z own W W1∧∀g' W' es,stepG P main g W1=.go g' W' es->qK Z own W1 W'->(∀e∈es,NY Z (grow own W1 W') e)->¬Gw P main Z Stop (grow own W1 W') g' W':=by
 apply bn;intro hc;refine h (Gw.xY hs λW1 hr=>?_);apply bn;intro hx;exact hc ⟨W1,hr, λg' W' es h1 h2 h3 h4=>hx ⟨g',W',es,h1,h2,h3,h4⟩⟩
theorem Gw.rely{W1:World}(h:Gw P main Z Stop own g W)(hr:dM Z own W W1):Gw P main Z Stop own g W1:=by
 cases h with
 |stop h=>exact .stop λW2 h2=>h W2 (hr.trans h2)
 |step hs g' W' es h1 h2 h3 h4=>exact .step hs g' W' es (λW2 h=>h1 W2 (hr.trans h)) (λW2 h=>h2 W2 (hr.trans h)) (λW2 h=>h3 W2 (hr.trans h)) (λW2 h=>h4 W2 (hr.trans h))
theorem Gw.bind{Stop':(Nat->Prop)->Goroutine->World->Prop}(h:Gw P main Z Stop own g W)(hk:∀own g W,(∀W1,dM Z own W W1->Stop own g W1)->Gw P main Z Stop' own g W):Gw P main Z Stop' own g W:=by
 induction h with
 |stop h=>exact hk _ _ _ h
 |step hs g' W' es h1 h2 h3 _ ih=>exact .step hs g' W' es h1 h2 h3 ih
end
end
section
variable [Sh]
section
variable {F F':Fit} {f g:Nat->Nat}
theorem Ig(h:∀b,(F.A b=true∨Sh.hol b=true)->f b=g b){a:Addr}(ha:F.A a.block=true):ra f a=ra g a:=by
 unfold ra;rw[h _ (.inl ha)]
theorem NZ(h:∀b,(F.A b=true∨Sh.hol b=true)->f b=g b){fn:Fn}(hf:Wi F fn=true):T9 f fn=T9 g fn:=by
 cases fn with
 |yield l=>exact congrArg Fn.yield (h l (.inl hf))
 |_=>rfl
mutual
theorem rD(h:∀b,(F.A b=true∨Sh.hol b=true)->f b=g b):∀v:Value,vs F v=true->rv f v=rv g v
 | .bool _,_=>by simp
 | .int _ _,_=>by simp
 | .float _ _,_=>by simp[qX]
 | .complex _ _ _,_=>by simp[mP]
 | .string _,_=>by simp
 | .pointer none,_=>by simp
 | .pointer (some a),hv=>by
   have :=Ig h (a:=a) (by simpa using hv);simp[this]
 | .slice none _ _,_=>by simp
 | .slice (some a) _ _,hv=>by
   have:ra f a=ra g a:=by
    unfold ra;rw[h _ ((nL (by simpa using hv)).imp id And.left)]
   simp[this]
 | .map none,_=>by simp
 | .map (some r),hv=>by
   have :=h r (.inl (by simpa using hv));simp[this]
 | .chan none,_=>by simp
 | .chan (some r),hv=>by simp at hv
 | .func fn a b,hv=>by
   rw[rv,rv];rw[vs,bB,bB]at hv;rw[NZ h hv.1.1,vo h a hv.1.2,vo h b hv.2]
 | .nilFunc,_=>by simp
 | .iface t v,hv=>by
   rw[rv,rv,rD h v (by rw[vs]at hv;exact hv)]
 | .nilIface,_=>by simp
 | .agg a,hv=>by
   rw[rv,rv,vo h a (by rw[vs]at hv;exact hv)]
 | .tuple a,hv=>by
   rw[rv,rv,vo h a (by rw[vs]at hv;exact hv)]
theorem vo(h:∀b,(F.A b=true∨Sh.hol b=true)->f b=g b):∀a:Array Value,JK F a=true->LU f a=LU g a
 |⟨l⟩,hv=>by rw[LU,LU,Ex h l (by rw[JK]at hv;exact hv)]
theorem Ex(h:∀b,(F.A b=true∨Sh.hol b=true)->f b=g b):∀l:List Value,JH F l=true->GY f l=GY g l
 | [],_=>by rw[GY,GY]
 |v::l,hv=>by
  rw[JH,bB]at hv;rw[GY,GY,rD h v hv.1,Ex h l hv.2]
end
theorem sK(h:∀b,(F.A b=true∨Sh.hol b=true)->f b=g b){a:Array Value}(ha:VS F a):a.map (rv f)=a.map (rv g):=
 Array.map_congr_left λv hv=>rD h v (ha v hv)
theorem Ih(hS:F.S=F'.S∧F.V=F'.V)(hA:∀b,F.A b=true->F'.A b=true){fn:Fn}(h:Wi F fn=true):Wi F' fn=true:=by
 cases fn with
 |func g=>show F'.V g=true;rw[<-hS.2];exact h
 |yield l=>exact hA l h
 |_=>exact h
mutual
theorem xZ(hS:F.S=F'.S∧F.V=F'.V)(hA:∀b,F.A b=true->F'.A b=true):∀v:Value,vs F v=true->vs F' v=true
 | .bool _,_=>by simp
 | .int _ _,_=>by simp
 | .float _ _,h=>by simp at h
 | .complex _ _ _,h=>by simp at h
 | .string _,_=>by simp
 | .pointer none,_=>by simp
 | .pointer (some a),h=>by simp at h⊢;exact hA _ h
 | .slice none _ _,_=>by simp
 | .slice (some a) l c,h=>by
   rw[gY]at h⊢;rcases nL h with h|⟨h,h1,h2⟩
   .exact qH (hA _ h)
   .unfold JG;simp[h,h1,h2]
 | .map none,_=>by simp
 | .map (some r),h=>by simp at h⊢;exact hA _ h
 | .chan r,h=>by simpa using h
 | .func fn a b,h=>by
   rw[vs,bB,bB]at h⊢;exact⟨⟨Ih hS hA h.1.1,x8 hS hA a h.1.2⟩,x8 hS hA b h.2⟩
 | .nilFunc,_=>by simp
 | .iface t v,h=>by rw[vs]at h⊢;exact xZ hS hA v h
 | .nilIface,_=>by simp
 | .agg a,h=>by rw[vs]at h⊢;exact x8 hS hA a h
 | .tuple a,h=>by rw[vs]at h⊢;exact x8 hS hA a h
theorem x8(hS:F.S=F'.S∧F.V=F'.V)(hA:∀b,F.A b=true->F'.A b=true):∀a:Array Value,JK F a=true->JK F' a=true
 |⟨l⟩,h=>by rw[JK]at h⊢;exact Ii hS hA l h
theorem Ii(hS:F.S=F'.S∧F.V=F'.V)(hA:∀b,F.A b=true->F'.A b=true):∀l:List Value,JH F l=true->JH F' l=true
 | [],_=>by rw[JH]
 |v::l,h=>by
  rw[JH,bB]at h⊢;exact⟨xZ hS hA v h.1,Ii hS hA l h.2⟩
end
theorem VS.mono(hS:F.S=F'.S∧F.V=F'.V)(hA:∀b,F.A b=true->F'.A b=true){a:Array Value}(h:VS F a):VS F' a:= λv hv=>xZ hS hA v (h v hv)
theorem Uw(hS:F.S=F'.S∧F.V=F'.V)(hc:F.code=F'.code)(hA:∀b,F.A b=true->F'.A b=true){o:Obj}(h:oS F o):oS F' o:=by
 cases o with
 |cells c e fr=>exact VS.mono hS hA h
 |number a l=>exact hA _ h
 |map es c=>exactλe he=>⟨xZ hS hA _ (h e he).1,xZ hS hA _ (h e he).2⟩
 |stringIter _ _=>trivial
 |mapIter m _ _ _=>
  cases m with
  |none=>rfl
  |some r=>exact hA r h
 |loop l=>exact⟨VS.mono hS hA h.1,hS.1 ▸ h.2.1,hA _ h.2.2.1,hc ▸ h.2.2.2.1,hc ▸ h.2.2.2.2.1, λc hx=>hc ▸ h.2.2.2.2.2 c hx⟩
 |deferred ds=>exact h
 |_=>exact h.elim
theorem Qr(h:∀b,(F.A b=true∨Sh.hol b=true)->f b=g b){o:Obj}(ho:oS F o):ro f o=ro g o:=by
 cases o with
 |cells c e fr=>simp only[ro];rw[sK h ho]
 |number a l=>simp only[ro];rw[Ig h ho]
 |map es c=>
  simp only[ro];congr 1;refine Array.map_congr_left λe he=>?_
  unfold re;rw[rD h _ (ho e he).1,rD h _ (ho e he).2]
 |stringIter _ _=>rfl
 |mapIter m _ _ _=>
  cases m with
  |none=>rfl
  |some r=>simp only[ro,ay];rw[h r (.inl ho)]
 |loop l=>simp only[ro];rw[sK h ho.1,h _ (.inl ho.2.2.1)]
 |deferred ds=>rcases ho with rfl|rfl<;>rfl
 |_=>exact ho.elim
theorem BR.conv(hS:F.S=F'.S∧F.V=F'.V)(hc:F.code=F'.code)(hA:∀b,F.A b=true->F'.A b=true)(h:∀b,(F.A b=true∨Sh.hol b=true)->f b=g b){b:Nat}{o:Obj}{O:Option Obj}(hb:BR F f b o O):BR F' g b o O:=by
 rcases hb with⟨hl,h1,h2,h3⟩|⟨hl,c,e,fr,fr',h1,h2,h3,h4⟩|⟨hl,c,fr,C,e',fr',h1,h2,h5,h3,h4⟩
 .exact .inl ⟨hl,Uw hS hc hA h1,h2,by rw[h3,Qr h h1]⟩
 .exact .inr (.inl ⟨hl,c,e,fr,fr',h1,VS.mono hS hA h2,by rw[h3,sK h h2],h4⟩)
 .exact .inr (.inr ⟨hl,c,fr,C,e',fr',h1,VS.mono hS hA h2,h5,h3, λi v hi=>by rw[h4 i v hi,rD h v (h2 v (aZ hi))]⟩)
variable {P:Program}
theorem Qs(hS:F.S=F'.S∧F.V=F'.V){v:Value}(h:ZO F v=true):ZO F' v=true:=by
 unfold ZO at h⊢;split at h
 .rw[hS.2]at h;exact h
 .exact h
theorem nP(hS:F.S=F'.S∧F.V=F'.V)(hA:∀b,F.A b=true->F'.A b=true){x:Operand}(h:eP P F x=true):eP P F' x=true:=by
 cases x with
 |tmp _=>rfl
 |const v=>exact Qs hS h
 |global g=>exact absurd h (by simp[eP])
 |func g=>show F'.V g=true;rw[<-hS.2];exact h
theorem Ij(hS:F.S=F'.S∧F.V=F'.V){x:Operand}(h:Cg F x=true):Cg F' x=true:=by
 unfold Cg at h⊢;split at h
 .rw[hS.1]at h;exact h
 .rw[hS.1]at h;exact h
 .cases h
theorem uy{α:Type}{p q:α->Bool}(h:∀x,p x=true->q x=true){a:Array α}(ha:a.all p=true):a.all q=true:=by
 rw[aU]at ha⊢;exactλx hx=>h x (ha x hx)
theorem N7{α:Type}{p q:α->Bool}(h:∀x,p x=true->q x=true){a:Option α}(ha:a.all p=true):a.all q=true:=by
 cases a with
 |none=>rfl
 |some x=>exact h x ha
theorem Ik(hS:F.S=F'.S∧F.V=F'.V)(hA:∀b,F.A b=true->F'.A b=true){c:Call}(h:sI P F c=true):sI P F' c=true:=by
 unfold sI at h⊢;rw[bB]at h⊢;refine⟨uy (λx=>nP hS hA) h.1,?_⟩;have h2:=h.2;cases hc:c.callee with
 |value x=>
  rw[hc]at h2
  exact Bool.or_eq_true_iff.2 ((Bool.or_eq_true_iff.1 h2).imp (nP hS hA) λh=>by
   rw[bB]at h⊢;exact⟨h.1,Ij hS h.2⟩)
 |builtin b=>rw[hc]at h2;exact h2
 |invoke _ _=>rw[hc]at h2;cases h2
theorem N8(hS:F.S=F'.S∧F.V=F'.V)(hA:∀b,F.A b=true->F'.A b=true){o:Op}(h:jg P F o=true):jg P F' o=true:=by
 have m:∀{x:Operand},eP P F x=true->eP P F' x=true:= λh=>nP hS hA h
 have am:∀{x:Array Operand},x.all (eP P F)=true->x.all (eP P F')=true:= λh=>uy (λx=>nP hS hA) h
 have om:∀{x:Option Operand},x.all (eP P F)=true->x.all (eP P F')=true:= λh=>N7 (λx=>nP hS hA) h
 cases o with
 |call c=>exact Ik hS hA h
 |makeFunc fn a b=>
  simp only[jg,bB]at h⊢;exact⟨⟨⟨Ih hS hA h.1.1.1,h.1.1.2⟩,am h.1.2⟩,am h.2⟩
 |build t ps=>exact uy (λx hx=>m hx) h
 |buildSlice t n ps=>exact uy (λx hx=>m hx) h
 |makeMap t r=>exact om h
 |alloc _=>rfl
 |panic _=>rfl
 |slice t x l hh mm=>
  simp only[jg,bB]at h⊢;exact⟨⟨⟨m h.1.1.1,om h.1.1.2⟩,om h.1.2⟩,om h.2⟩
 |move x=>exact m h
 |assign x=>exact m h
 |nilCheck x=>exact m h
 |unOp _ _ x=>exact m h
 |box _ x=>exact m h
 |load _ x=>exact m h
 |field _ x _=>exact m h
 |extract x _=>exact m h
 |makeInterface _ x=>exact m h
 |range _ x=>exact m h
 |next x _=>exact m h
 |pick c a b=>simp only[jg,bB]at h⊢;exact⟨⟨m h.1.1,m h.1.2⟩,m h.2⟩
 |store _ a x=>simp only[jg,bB]at h⊢;exact⟨m h.1,m h.2⟩
 |makeSlice _ a x=>simp only[jg,bB]at h⊢;exact⟨m h.1,m h.2⟩
 |indexAddr _ a x=>simp only[jg,bB]at h⊢;exact⟨m h.1,m h.2⟩
 |index _ a x=>simp only[jg,bB]at h⊢;exact⟨m h.1,m h.2⟩
 |binOp op t x y _=>simp only[jg,bB]at h⊢;exact⟨⟨m h.1.1,m h.1.2⟩,h.2⟩
 |convert s d x=>simp only[jg,bB]at h⊢;exact⟨m h.1,h.2⟩
 |fieldAddr t x i=>simp only[jg,bB]at h⊢;exact⟨m h.1,h.2⟩
 |lookup t x k _=>simp only[jg,bB]at h⊢;exact⟨⟨m h.1.1,m h.1.2⟩,h.2⟩
 |mapUpdate t x k v=>simp only[jg,bB]at h⊢;exact⟨⟨⟨m h.1.1.1,m h.1.1.2⟩,m h.1.2⟩,h.2⟩
 |insert t x k v=>simp only[jg,bB]at h⊢;exact⟨⟨⟨m h.1.1.1,m h.1.1.2⟩,m h.1.2⟩,h.2⟩
 |mapEntry t x k=>simp only[jg,bB]at h⊢;exact⟨⟨m h.1.1,m h.1.2⟩,h.2⟩
 |entryStore _ x k v=>simp only[jg,bB]at h⊢;exact⟨⟨m h.1.1,m h.1.2⟩,m h.2⟩
 |_=>cases h
theorem N9(hS:F.S=F'.S∧F.V=F'.V)(hc:F.code=F'.code)(hA:∀b,F.A b=true->F'.A b=true){i:Item}(h:zz P F i):zz P F' i:=by
 cases i with
 |code c=>show F'.code c=true;rw[<-hc];exact h
 |inBlock _=>trivial
 |inLoop c=>show F'.code c=true;rw[<-hc];exact h
 |inScope c=>show F'.code c=true;rw[<-hc];exact h
 |inRegion ops l=>exact uy (λo ho=>N8 hS hA ho) h
 |inRangeFunc l=>exact hA l h
 |endRangeFunc l=>exact hA l h
 |beginRound=>trivial
 |call _ _ _ _=>exact az h
 |extern _ _=>exact az h
theorem jM.mono(hS:F.S=F'.S∧F.V=F'.V)(hc:F.code=F'.code)(hA:∀b,F.A b=true->F'.A b=true){fr:Frame}(h:jM P F fr):jM P F' fr:=
 ⟨hS.1 ▸ h.fn,VS.mono hS hA h.tmps, λi hi=>N9 hS hc hA (h.todo i hi), λd hd=>let⟨r,h1,h2⟩:=h.defers d hd;⟨r,h1,hA r h2⟩,h.kind, λl hl=>hA l (h.round l hl)⟩
theorem tQ.mono(hS:F.S=F'.S∧F.V=F'.V)(hc:F.code=F'.code)(hA:∀b,F.A b=true->F'.A b=true):∀{fr:Frame}{up:List Frame},tQ P F fr up->tQ P F' fr up
 |_,[],h=>⟨h.1.mono hS hc hA,h.2⟩
 |_,_::_,h=>⟨h.1.mono hS hc hA,h.2.1,tQ.mono hS hc hA h.2.2⟩
theorem Oa(h:∀b,(F.A b=true∨Sh.hol b=true)->f b=g b){i:Item}(hi:zz P F i):ql f i=ql g i:=by
 cases i with
 |inRangeFunc l=>exact congrArg Item.inRangeFunc (h l (.inl hi))
 |endRangeFunc l=>exact congrArg Item.endRangeFunc (h l (.inl hi))
 |_=>rfl
theorem zF(h:∀b,(F.A b=true∨Sh.hol b=true)->f b=g b){fr:Frame}(hf:jM P F fr):ic f fr=ic g fr:=by
 have e1:=sK h hf.tmps;have e2:fr.todo.map (ql f)=fr.todo.map (ql g):=List.map_congr_left λi hi=>Oa h (hf.todo i hi)
 have e3:fr.defers.map (rd f)=fr.defers.map (rd g):=List.map_congr_left λd hd=>by
  obtain⟨r,rfl,hr⟩:=hf.defers d hd;simp[Hz,rd,h r (.inl hr)]
 have e4:fr.roundOf.map f=fr.roundOf.map g:=by
  cases hr:fr.roundOf with
  |none=>rfl
  |some l=>simp only[ay];rw[h l (.inl (hf.round l hr))]
 unfold ic;rw[e1,e2,e3,e4]
theorem tQ.all:∀{fr:Frame}{up:List Frame},tQ P F fr up->∀x∈up,jM P F x
 |_,[],_=>by intro x hx;cases hx
 |_,_::_,h=>by
  intro x hx;rcases bD.1 hx with rfl|hx
  .exact h.2.2.top
  .exact tQ.all h.2.2 x hx
theorem Qt(h:∀b,(F.A b=true∨Sh.hol b=true)->f b=g b){fr:Frame}{up:List Frame}(hs:tQ P F fr up):up.map (ic f)=up.map (ic g):=
 List.map_congr_left λx hx=>zF h (hs.all x hx)
end
end
section
def stk:Frame:={ fn:=0,tmps:= #[],todo:=[.code (.refuse "")],defers:=[{ target:=.nil,args:= #[] }],mode:=.run,kind:=.normal }
def Fin(fr:Frame)(up:List Frame):Prop:=up= []∧fr.mode=.returning∧fr.defers= []
section
variable {P:Program}
theorem pg{fr fr':Frame}{cs cs':List Frame}{w w':World}(h:lone fr cs w=lone fr' cs' w'):fr=fr'∧cs=cs'∧w=w':=by
 unfold lone at h;injection h with h1 h2 h3;injection h2 with h4;injection h4 with h5 _;injection h5 with h6 h7;exact⟨h6,h7,h1⟩
theorem vv{fr qh:Frame}{cs cs1:List Frame}{w w1:World}{es:Array Event}(h:stepG P true (G fr cs) w=.go (G qh cs1) w1 es):step P (lone fr cs w)=.next (lone qh cs1 w1):=
 step_lone_go (by unfold G at h;rw[h];rfl)
theorem pq{fr:Frame}{cs:List Frame}{w w1:World}{o:Outcome}{es:Array Event}(h:stepG P true (G fr cs) w=.ended o w1 es):step P (lone fr cs w)=.ended o w1:=
 step_lone_ended (by unfold G at h;rw[h];rfl)
theorem rE:∀(n:Nat)(m:Machine),runN P (n+1) m=(match runN P n m with | .next m'=>step P m'|e=>e)
 |0,m=>by
  simp only[runN];cases step P m<;>rfl
 |n+1,m=>by
  have e:runN P (n+1+1) m=(match step P m with | .next m'=>runN P (n+1) m'|e=>e):=rfl;have e':runN P (n+1) m=(match step P m with | .next m'=>runN P n m'|e=>e):=rfl;rw[e,e'];cases step P m with
  |next m'=>exact rE n m'
  |ended o w=>rfl
theorem lD(a b:Nat)(m:Machine):runN P (a+b) m=(match runN P a m with | .next m'=>runN P b m'|e=>e):=by
 induction b with
 |zero=>
  cases h:runN P a m with
  |next m'=>rfl
  |ended o w=>rfl
 |succ b ih=>
  rw[<-Nat.add_assoc,rE,ih];cases h:runN P a m with
  |next m'=>exact(rE b m').symm
  |ended o w=>rfl
theorem runN_ended(n:Nat){m:Machine}{o:Outcome}{w:World}(h:step P m=.ended o w):runN P (n+1) m=.ended o w:=by
 show(match step P m with | .next m'=>runN P n m'|e=>e)=_;rw[h]
theorem Il(w:World)(cs:List Frame):∃o w1,step P (lone stk cs w)=.ended o w1:=
 ⟨_,_,pq (o:=_) (w1:=w) (es:= #[]) rfl⟩
theorem vw{fr:Frame}(hf:∃fn,P.funcs[fr.fn]?=some fn)(hk:fr.kind=.normal)(hm:fr.mode=.returning)(hd:fr.defers= [])(w:World)(n:Nat)(fr':Frame)(up':List Frame)(w':World):
 runN P (n+1) (lone fr [stk] w)≠ .next (lone fr' (up'++ [stk]) w'):=by
 obtain⟨fn,hf⟩:=hf
 have h1:(∃o w1,step P (lone fr [stk] w)=.ended o w1)∨∃w1,step P (lone fr [stk] w)=.next (lone stk [] w1):=by
  generalize hr:(results fn fr.tmps).runT P w #[]=r;obtain⟨r1,r2⟩:=r;cases r1 with
  |ok v w1=>
   refine .inr ⟨w1,vv (es:=seen P fr.fn r2++ #[]) ?_⟩;unfold stepG G;simp only[hm];unfold unwind;simp only[hd,hm,hf];rw[hr];unfold doReturn;simp only[hk];rfl
  |halt h w1=>
   have key:∃o,stepG P true (G fr [stk]) w=.ended o w1 (seen P fr.fn r2++ #[]):=by
    unfold stepG G;simp only[hm];unfold unwind;simp only[hd,hm,hf];rw[hr];cases h<;>exact⟨_,rfl⟩
   obtain⟨o,key⟩:=key;exact .inl ⟨o,w1,pq key⟩
 rcases h1 with⟨o,w1,h1⟩|⟨w1,h1⟩
 .rw[runN_ended n h1];simp
 .show(match step P (lone fr [stk] w)with | .next m'=>runN P n m'|e=>e)≠_;rw[h1];dsimp only;cases n with
  |zero=>
   simp only[runN];intro h;have :=(pg (Stepped.next.inj h)).2.1;have :=congrArg List.length this;simp at this
  |succ n=>
   obtain⟨o,w2,h2⟩:=Il (P:=P) w1 [];rw[runN_ended n h2];simp
def ab7(g:Goroutine):Prop:=∃ch,g=G { stk with mode:=.panicking ch } []
theorem Ob(w:World)(ch:List PanicEntry):∃o w1,step P (lone { stk with mode:=.panicking ch } [] w)=.ended o w1:=by
 have h:∃o,stepG P true (G { stk with mode:=.panicking ch } []) w=.ended o w #[]:=by
  unfold stepG G;dsimp only[stk];unfold unwind;dsimp only;unfold callDeferred;exact⟨_,rfl⟩
 obtain⟨o,h⟩:=h;exact⟨o,w,pq h⟩
variable {F:Fit}
theorem Qu(r:Nat)(w:World)(hd:BF F w)(hr:F.A r=true):
 (∃h w1 es,(Instr.takeDeferred r).runT P w #[]=(.halt h w1,es))∨∃w1 es,(Instr.takeDeferred r).runT P w #[]=(.ok [] w1,es)∧BF F w1:=by
 have e:∀(k:Obj->Sem (List Deferred)),Instr.takeDeferred r=(getObj r>>=k)->Sem.runT P (Instr.takeDeferred r) w #[]=Sem.runT P (.getObj r k) w #[]:=by
  intro k hk;rw[hk];rfl
 unfold Instr.takeDeferred;show(∃h w1 es,Sem.runT P (.getObj r _) w #[]=(.halt h w1,es))∨∃w1 es,Sem.runT P (.getObj r _) w #[]=(.ok [] w1,es)∧BF F w1;simp only[Sem.runT];cases hb:w.heap[r]? with
 |none=>exact .inl ⟨_,_,_,rfl⟩
 |some o=>
  cases o with
  |deferred ds=>
   rcases hd r ds hr hb with rfl|rfl
   .refine .inr ⟨{ w with heap:=w.heap.setIfInBounds r (.deferred none) },(#[].push ⟨.obj r,false,false⟩).push ⟨.obj r,true,false⟩,?_,?_⟩
    .show Sem.runT P (.setObj r (.deferred none) (.pure [])) w _=_;rw[oU (x:=.deferred (some [])) (.deferred none) (.pure []) _ hb rfl];rfl
    .intro b ds hA hb'
     by_cases hbr:r=b
     .subst hbr;have :=(aI.1 hb).1;simp only[]at hb';rw[aD this]at hb';cases hb';exact .inr rfl
     .simp only[]at hb';rw[au hbr]at hb';exact hd b ds hA hb'
   .exact .inl ⟨_,_,_,rfl⟩
  |_=>exact .inl ⟨_,_,_,rfl⟩
theorem Ux{g:Goroutine}{w:World}(h:PS F [stk] g w):
 (∃o w1,step P (lone g.frame g.callers w)=.ended o w1)∨∃g1 w1,step P (lone g.frame g.callers w)=.next (lone g1.frame g1.callers w1)∧(PS F [stk] g1 w1∨ab7 g1):=by
 obtain⟨fr,up,ch,rfl,hm,hc,hd⟩:=h;show(∃o w1,step P (lone fr (up++ [stk]) w)=.ended o w1)∨∃(g1:Goroutine)(w1:World),step P (lone fr (up++ [stk]) w)=.next (lone g1.frame g1.callers w1)∧(PS F [stk] g1 w1∨ab7 g1)
 have hsg:stepG P true (G fr (up++ [stk])) w=unwind P true fr (up++ [stk]) none w:=by
  unfold stepG G;simp only[hm]
 cases hds:fr.defers with
 |cons d ds=>
  obtain⟨r,rfl,hr⟩:=hc fr (aP ..) d (by rw[hds];exact aP ..)
  have hu:stepG P true (G fr (up++ [stk])) w=GStep.after (seen P fr.fn ((Instr.takeDeferred r).runT P w #[]).2) (match((Instr.takeDeferred r).runT P w #[]).1 with
   | .ok calls w=>.go (G { fr with defers:=calls++ds } (up++ [stk])) w
   | .halt _ w=>.ended (.stuck "the deferred calls of a range-over-func loop have been taken" (fr.pos P)) w):=by
   rw[hsg];unfold unwind;simp only[hds,Hz];rfl
  rcases Qu (P:=P) r w hd hr with⟨x,w1,es,h⟩|⟨w1,es,h,hd1⟩
  .rw[h]at hu;exact .inl ⟨_,_,pq hu⟩
  .rw[h]at hu;refine .inr ⟨G { fr with defers:=ds } (up++ [stk]),w1,vv hu,.inl ⟨_,up,ch,rfl,hm, λx hx=>?_,hd1⟩⟩;rcases bD.1 hx with rfl|hx
   .intro d Qm;exact hc fr (aP ..) d (by rw[hds];exact aQ _ Qm)
   .exact hc x (aQ _ hx)
 |nil=>
  by_cases XB:fr.catches P=true
  .left
   have h:∃o,stepG P true (G fr (up++ [stk])) w=.ended o w #[]:=by
    rw[hsg];unfold unwind;simp only[hds,hm,XB,if_true];exact⟨_,rfl⟩
   obtain⟨o,h⟩:=h;exact⟨o,w,pq h⟩
  .right;cases up with
   |nil=>
    refine⟨G (stk.raise ch) [],w,vv (es:= #[]) ?_,.inr ⟨ch,rfl⟩⟩;rw[hsg];unfold unwind;simp only[hds,hm,XB,List.nil_append,if_false];rfl
   |cons x up=>
    refine⟨G (x.raise ch) (up++ [stk]),w,vv (es:= #[]) ?_,.inl ?_⟩
    .rw[hsg];unfold unwind;simp only[hds,hm,XB,List.cons_append,if_false];rfl
    .have hm2:∃c2,(x.raise ch).mode=.panicking c2:=by
      unfold Frame.raise;cases x.mode<;>exact⟨_,rfl⟩
     obtain⟨c2,hm2⟩:=hm2;refine⟨x.raise ch,up,c2,rfl,hm2, λy hy=>?_,hd⟩;rcases bD.1 hy with rfl|hy
     .intro d Qm;refine hc x (aQ _ (aP ..)) d ?_
      unfold Frame.raise at Qm;cases hxm:x.mode<;>(rw[hxm]at Qm;exact Qm)
     .exact hc y (aQ _ (aQ _ hy))
theorem Ey:∀(n:Nat){g:Goroutine}{w:World},PS F [stk] g w->∀fr' w',(∀ch,fr'.mode≠ .panicking ch)->runN P n (lone g.frame g.callers w)≠ .next (lone fr' [stk] w')
 |0,g,w,h,fr',w',hm=>by
  obtain⟨fr,up,ch,rfl,hm',_⟩:=h;simp only[runN];intro e;obtain⟨h1,_⟩:=pg (Stepped.next.inj e);have h1:fr=fr':=h1;exact hm ch (h1 ▸ hm')
 |n+1,g,w,h,fr',w',hm=>by
  rcases Ux (P:=P) h with⟨o,w1,h1⟩|⟨g1,w1,h1,h2⟩
  .rw[runN_ended n h1];simp
  .show(match step P (lone g.frame g.callers w)with | .next m'=>runN P n m'|e=>e)≠_;rw[h1];dsimp only;rcases h2 with h2|⟨ch,rfl⟩
   .exact Ey n h2 fr' w' hm
   .cases n with
    |zero=>
     simp only[runN];intro e;have :=(pg (Stepped.next.inj e)).2.1;cases this
    |succ n=>
     obtain⟨o,w2,h3⟩:=Ob (P:=P) w1 ch;have h3':step P (lone (G { stk with mode:=.panicking ch } []).frame (G { stk with mode:=.panicking ch } []).callers w1)=.ended o w2:=h3;rw[runN_ended n h3'];simp
end
end
end Par
